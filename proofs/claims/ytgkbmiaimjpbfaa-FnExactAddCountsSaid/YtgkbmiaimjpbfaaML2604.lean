/- Part 4 of the proof that the law named in the last part returns true at every argument: an evaluator of the program, shown sound, and its runs. No further conditions. -/
import Derived.Test.YtgkbmiaimjpbfaaML2603
namespace Go.Proofs.Ytgkbmiaimjpbfaa.Ev
open Go
set_option maxRecDepth 100000
set_option linter.unusedSimpArgs false
set_option linter.unusedVariables false
set_option maxHeartbeats 2000000
theorem e_in (a b c : Int) : oc.call 150 [.int .i64 a,.int .i64 b,.int .i64 c] = some (.bool (inI a b c),[]) := by
 refine fun_s rfl cd150 rfl rfl rfl (by simp;rfl) (by simp;rfl) ?_
 refine wa_ (wc_region (w_ (a_ (h:=wo_nil (e_ (h:=aft_normal (wa_ (wc_region (w_ (m_ (h:=w_ (m_ (h:=w_ (b_ (h:=w_ (m_ (h:=?_)))))))))))))))))
 refine gw_ (h1:=?_) (h2:=?_)
 rotate_right 1
 focus
  intro c1
  refine go_ (h:=go_ (h:=go_ (h:=?_)))
 rotate_right 1
 focus
  intro c1
  refine g_ (h:=w_ (m_ (h:=g_ (h:=w_ (m_ (h:=g_ (h:=w_ (b_ (h:=?_)))))))))
 all_goals
  refine w_ (pk (h:=w_ (a_ (h:=wo_nil (e_ (h:=?_))))))
 all_goals first
 | (
  refine aft_normal ?_
  refine wc_ret (?_)
  )
 all_goals (refine fin_ (hr:=(res_tmp rfl res_nil)) (h:=?_);(focus (simp_all [inI] <;> omega)))
theorem e_l1In (a b c : Int) : oc.call 108 [.int .i64 a,.int .i64 b,.int .i64 c] = some (.bool (inI a b c),[]) := by
 refine fun_s rfl cd108 rfl rfl rfl (by simp;rfl) (by simp;rfl) ?_
 refine wa_ (wc_region (w_ (a_ (h:=wo_nil (e_ (h:=aft_normal (wa_ (wc_region (w_ (m_ (h:=w_ (m_ (h:=w_ (b_ (h:=w_ (m_ (h:=?_)))))))))))))))))
 refine gw_ (h1:=?_) (h2:=?_)
 rotate_right 1
 focus
  intro c1
  refine go_ (h:=go_ (h:=go_ (h:=?_)))
 rotate_right 1
 focus
  intro c1
  refine g_ (h:=w_ (m_ (h:=g_ (h:=w_ (m_ (h:=g_ (h:=w_ (b_ (h:=?_)))))))))
 all_goals
  refine w_ (pk (h:=w_ (a_ (h:=wo_nil (e_ (h:=?_))))))
 all_goals first
 | (
  refine aft_normal ?_
  refine wc_ret (?_)
  )
 all_goals (refine fin_ (hr:=(res_tmp rfl res_nil)) (h:=?_);(focus (simp_all [inI] <;> omega)))
theorem e_l1Min (a b : Int) : oc.call 163 [.int .i64 a,.int .i64 b] = some (.int .i64 (if a < b then a else b),[]) := by
 refine fun_s rfl cd163 rfl rfl rfl (by simp;rfl) (by simp;rfl) ?_
 refine wa_ (wc_region (w_ (a_ (h:=wo_nil (e_ (h:=aft_normal (wa_ (wa_ (wc_region (w_ (m_ (h:=w_ (m_ (h:=w_ (b_ (h:=wo_nil (e_ (h:=?_))))))))))))))))))
 refine aft_normal (?_)
 refine c_ (h1:=?_) (h2:=?_)
 rotate_right 1
 focus
  intro c1
  refine wc_skip (?_)
 rotate_right 1
 focus
  intro c1
  refine wa_ (wc_region (w_ (m_ (h:=w_ (a_ (h:=wo_nil (e_ (h:=aft_normal (wc_ret (?_))))))))))
 all_goals first
 | refine aft_ret ?_
 | (
  refine aft_normal ?_
  refine wa_ (wc_region (w_ (m_ (h:=w_ (a_ (h:=wo_nil (e_ (h:=aft_normal (wc_ret (?_))))))))))
  )
 all_goals (refine fin_ (hr:=(res_tmp rfl res_nil)) (h:=?_);(focus (first | (simp_all;done) | (simp_all <;> omega) | (simp_all <;> split <;> simp_all <;> omega))))
theorem e_two (a : Int) : oc.call 194 [.int .i64 a] = some (.bool (decide (a = 4) || decide (a = 6)),[]) := by
 refine fun_s rfl cd194 rfl rfl rfl (by simp;rfl) (by simp;rfl) ?_
 refine wa_ (wc_region (w_ (a_ (h:=wo_nil (e_ (h:=aft_normal (wa_ (wc_region (w_ (m_ (h:=w_ (bE (h:=w_ (m_ (h:=?_)))))))))))))))
 refine gw_ (h1:=?_) (h2:=?_)
 rotate_right 1
 focus
  intro c1
  refine go_ (h:=go_ (h:=?_))
 rotate_right 1
 focus
  intro c1
  refine g_ (h:=w_ (m_ (h:=g_ (h:=w_ (bE (h:=?_))))))
 all_goals
  refine w_ (pk (h:=w_ (a_ (h:=wo_nil (e_ (h:=?_))))))
 all_goals first
 | (
  refine aft_normal ?_
  refine wc_ret (?_)
  )
 all_goals (refine fin_ (hr:=(res_tmp rfl res_nil)) (h:=?_);(focus (first | (simp_all;done) | (simp_all <;> omega) | (simp_all <;> split <;> simp_all <;> omega))))
theorem e_grouped (a : Int) : oc.call 198 [.int .i64 a] = some (.bool (inI a 7 10),[]) := by
 refine fun_s rfl cd198 rfl rfl rfl (by simp;rfl) (by simp;rfl) ?_
 refine wa_ (wc_region (w_ (a_ (h:=wo_nil (e_ (h:=aft_normal (wa_ (wc_region (w_ (m_ (h:=w_ (ca (hc:=e_in _ _ _) (h:=w_ (a_ (h:=wo_nil (e_ (h:=aft_normal (?_))))))))))))))))))
 refine wc_ret (?_)
 all_goals (refine fin_ (hr:=(res_tmp rfl res_nil)) (h:=?_);(focus (first | (simp_all;done) | (simp_all <;> omega) | (simp_all <;> split <;> simp_all <;> omega))))
theorem e_l3Reads (a : Int) : oc.call 161 [.int .i64 a] = some (.int .i64 (if a = 1 then 0 else if a = 4 ∨ a = 6 then 2 else 1),[]) := by
 refine fun_s rfl cd161 rfl rfl rfl (by simp;rfl) (by simp;rfl) ?_
 refine wa_ (wc_region (w_ (a_ (h:=wo_nil (e_ (h:=aft_normal (wa_ (wa_ (wc_region (w_ (m_ (h:=wo_nil (e_ (h:=aft_normal (wc_block (?_))))))))))))))))
 refine wa_ (wc_region (w_ (bE (h:=w_ (a_ (h:=wo_nil (e_ (h:=aft_normal (?_)))))))))
 refine c_ (h1:=?_) (h2:=?_)
 rotate_right 1
 focus
  intro c1
  refine wa_ (wa_ (wc_region (w_ (bE (h:=w_ (a_ (h:=wo_nil (e_ (h:=aft_normal (?_))))))))))
  refine c_ (h1:=?_) (h2:=?_)
  rotate_right 1
  focus
   intro c2
   refine wc_region (w_ (bE (h:=w_ (a_ (h:=wo_nil (e_ (h:=?_)))))))
  rotate_right 1
  focus
   intro c2
   refine wc_skip (?_)
  all_goals first
  | (
   refine aft_normal ?_
   refine c_ (h1:=?_) (h2:=?_)
   rotate_right 1
   focus
    intro c3
    refine wc_skip (?_)
   rotate_right 1
   focus
    intro c3
    refine wa_ (wc_region (w_ (a_ (h:=wo_nil (e_ (h:=aft_normal (wc_ret (?_))))))))
   )
 rotate_right 1
 focus
  intro c1
  refine wa_ (wc_region (w_ (a_ (h:=wo_nil (e_ (h:=aft_normal (wc_ret (?_))))))))
 all_goals first | refine blk_normal ?_ | refine blk_ret ?_
 all_goals first
 | refine aft_ret ?_
 | (
  refine aft_normal ?_
  refine wa_ (wc_region (w_ (a_ (h:=wo_nil (e_ (h:=aft_normal (wc_ret (?_))))))))
  )
 all_goals (refine fin_ (hr:=(res_tmp rfl res_nil)) (h:=?_);(focus (first | (simp_all;done) | (simp_all <;> omega) | (simp_all <;> split <;> simp_all <;> omega))))
theorem e_size (sz : Nat) (l : List V) (h : l.length < 4611686018427387904) : oc.call 100 [.lst false sz l] = some (.int .i64 l.length,[]) := by
 refine fun_s rfl cd100 rfl rfl rfl (by simp;rfl) (by simp;rfl) ?_
 refine wa_ (wc_region (w_ (a_ (h:=wo_nil (e_ (h:=aft_normal (wa_ (wc_region (w_ (m_ (h:=w_ (le (h:=w_ (a_ (h:=wo_nil (e_ (h:=aft_normal (?_))))))))))))))))))
 refine wc_ret (?_)
 all_goals (refine fin_ (hr:=(res_tmp rfl res_nil)) (h:=?_);(focus (first | (simp_all;done) | (simp_all <;> omega) | (simp_all <;> split <;> simp_all <;> omega))))
theorem e_sizeN (sz : Nat) (l : List V) (h : l.length < 4611686018427387904) : oc.call 164 [.lst false sz l] = some (.int .i64 l.length,[]) := by
 refine fun_s rfl cd164 rfl rfl rfl (by simp;rfl) (by simp;rfl) ?_
 refine wa_ (wc_region (w_ (a_ (h:=wo_nil (e_ (h:=aft_normal (wa_ (wc_region (w_ (m_ (h:=w_ (le (h:=w_ (a_ (h:=wo_nil (e_ (h:=aft_normal (?_))))))))))))))))))
 refine wc_ret (?_)
 all_goals (refine fin_ (hr:=(res_tmp rfl res_nil)) (h:=?_);(focus (first | (simp_all;done) | (simp_all <;> omega) | (simp_all <;> split <;> simp_all <;> omega))))
theorem e_sz (sz : Nat) (l : List V) (a : Int) (h : l.length < 4611686018427387904) (ha : 0 ≤ a) (hb : a < 4611686018427387904) : oc.call 144 [.lst false sz l,.int .i64 a] = some (.int .i64 (if a < l.length then -1 else a - l.length),[]) := by
 refine fun_s rfl cd144 rfl rfl rfl (by simp;rfl) (by simp;rfl) ?_
 have hw : IntKind.i64.wrap (a - l.length) = a - l.length := wrap_id (by omega) (by omega)
 refine wa_ (wc_region (w_ (a_ (h:=wo_nil (e_ (h:=aft_normal (wa_ (wc_region (w_ (m_ (h:=w_ (m_ (h:=w_ (le (h:=w_ (b_ (h:=w_ (a_ (h:=?_)))))))))))))))))))
 refine wo_nil (e_ (h:=aft_normal (wa_ (wa_ (wc_region (w_ (m_ (h:=w_ (b_ (h:=wo_nil (e_ (h:=aft_normal (?_)))))))))))))
 refine c_ (h1:=?_) (h2:=?_)
 rotate_right 1
 focus
  intro c1
  refine wc_skip (?_)
 rotate_right 1
 focus
  intro c1
  refine wa_ (wc_region (w_ (a_ (h:=wo_nil (e_ (h:=aft_normal (wc_ret (?_))))))))
 all_goals first
 | refine aft_ret ?_
 | (
  refine aft_normal ?_
  refine wa_ (wc_region (w_ (m_ (h:=w_ (a_ (h:=wo_nil (e_ (h:=aft_normal (wc_ret (?_))))))))))
  )
 all_goals (refine fin_ (hr:=(res_tmp rfl res_nil)) (h:=?_);(focus (first | (simp_all;done) | (simp_all <;> omega) | (simp_all <;> split <;> simp_all <;> omega))))
theorem e_isWeight (a : Int) : oc.call 151 [.int .i64 a] = some (.bool (inI a (-1000000000000) 1000000000000),[]) := by
 refine fun_s rfl cd151 rfl rfl rfl (by simp;rfl) (by simp;rfl) ?_
 refine wa_ (wc_region (w_ (a_ (h:=wo_nil (e_ (h:=aft_normal (wa_ (wc_region (w_ (m_ (h:=w_ (ca (hc:=e_in _ _ _) (h:=w_ (a_ (h:=wo_nil (e_ (h:=aft_normal (?_))))))))))))))))))
 refine wc_ret (?_)
 all_goals (refine fin_ (hr:=(res_tmp rfl res_nil)) (h:=?_);(focus (first | (simp_all;done) | (simp_all <;> omega) | (simp_all <;> split <;> simp_all <;> omega))))
theorem e_l1Weight (a : Int) : oc.call 146 [.int .i64 a] = some (.bool (inI a (-1000000000000) 1000000000000),[]) := by
 refine fun_s rfl cd146 rfl rfl rfl (by simp;rfl) (by simp;rfl) ?_
 refine wa_ (wc_region (w_ (a_ (h:=wo_nil (e_ (h:=aft_normal (wa_ (wc_region (w_ (m_ (h:=w_ (ca (hc:=e_l1In _ _ _) (h:=w_ (a_ (h:=wo_nil (e_ (h:=aft_normal (?_))))))))))))))))))
 refine wc_ret (?_)
 all_goals (refine fin_ (hr:=(res_tmp rfl res_nil)) (h:=?_);(focus (first | (simp_all;done) | (simp_all <;> omega) | (simp_all <;> split <;> simp_all <;> omega))))
theorem l_eqI (a b : List Int) (z z' : Nat) (ha : a.length < 4000000000) (hab : a.length = b.length) : ∀ i : Nat,i ≤ a.length → ∀ s,normE 2 (some [0,1,5]) s = ⟨[(0,.lst false z (ints a)),(1,.lst false z' (ints b)),(5,.int .i64 i)],[],2⟩ →
 oc.loop 157 4 s = some (if a.drop i = b.drop i then (.exit 0,⟨[],[],2⟩) else (.ret,⟨[(4,.bool false)],[],2⟩)) := by
 refine loop_ind (fun i => a.length - i) _ (fun i => ⟨[(0,.lst false z (ints a)),(1,.lst false z' (ints b)),(5,.int .i64 i)],[],2⟩) _ ?_
 intro i hi ih s hs
 refine loop_s cd157 rfl rfl hs ?_
 refine wa_ (wa_ (wc_region (w_ (m_ (h:=w_ (m_ (h:=w_ (le (h:=w_ (b_ (h:=wo_nil (e_ (h:=aft_normal (?_))))))))))))))
 refine c_ (h1:=?_) (h2:=?_)
 rotate_right 1
 focus
  intro c1
  simp at c1;have : i = a.length := (by omega);subst this
  refine wc_exit (?_)
 rotate_right 1
 focus
  intro c1
  simp at c1;have hw := wrap_succ (i:=i) (by omega);obtain ⟨x,_,d1,g1⟩ := ints_cut c1;obtain ⟨y,_,d2,g2⟩ := ints_cut (l:=b) (i:=i) (by omega)
  refine wc_skip (?_)
 all_goals first
 | refine aft_exit ?_
 | (
  refine aft_normal ?_
  refine wa_ (wc_block (wa_ (wc_draw (y_ (m_ (h:=ax_ (h:=y_ (m_ (h:=ax_ (h:=y_ (x_ (h:=ax_ (h:=y_ (l_ (h:=ax_ (h:=y_ (m_ (h:=ax_ (h:=y_ (m_ (h:=ax_ (h:=y_ (x_ (h:=ax_ (h:=y_ (l_ (h:=ax_ (h:=?_))))))))))))))))))))))))))))
  refine y_ (bE (h:=ax_ (h:=wo_nil (ed (h:=aft_normal (?_))))))
  refine c_ (h1:=?_) (h2:=?_)
  rotate_right 1
  focus
   intro c2
   refine wc_skip (?_)
  rotate_right 1
  focus
   intro c2
   refine wa_ (wc_region (w_ (a_ (h:=wo_nil (e_ (h:=aft_normal (wc_ret (?_))))))))
  all_goals first | refine blk_normal ?_ | refine blk_ret ?_
  all_goals first
  | refine aft_ret ?_
  | (
   refine aft_normal ?_
   refine wc_region (w_ (m_ (h:=w_ (b_ (h:=w_ (a_ (h:=wo_nil (e_ (h:=?_)))))))))
   )
  )
 all_goals first
 | (refine (ih (i + 1) (by omega) ?_ _ ?_).trans ?_;(focus (first | omega | (simp;done) | (simp;omega)));(focus (simp [normE,hw];done));(focus (simp at c2;rw [d1,d2];simp [c2])))
 | (apply end_leaf (ex:=Ext.ret) 2 (some [4]);(focus (simp [normE];rfl));(focus (simp at c2;rw [d1,d2];simp [c2])))
 | (apply end_leaf (ex:=(Ext.exit 0)) 2 (some [4]);(focus (simp [normE];rfl));(focus (rw [if_pos (by simp [hab])])))
theorem e_eqI (a b : List Int) (z z' : Nat) (ha : a.length < 4000000000) (hb : b.length < 4000000000) : oc.call 157 [.lst false z (ints a),.lst false z' (ints b)] = some (.bool (decide (a = b)),[]) := by
 refine fun_s rfl cd157 rfl rfl rfl (by simp;rfl) (by simp;rfl) ?_
 refine wa_ (wc_region (w_ (a_ (h:=wo_nil (e_ (h:=aft_normal (wa_ (wa_ (wc_region (w_ (m_ (h:=w_ (le (h:=w_ (m_ (h:=w_ (le (h:=?_))))))))))))))))))
 refine w_ (bE (h:=wo_nil (e_ (h:=aft_normal (?_)))))
 refine c_ (h1:=?_) (h2:=?_)
 rotate_right 1
 focus
  intro c1
  simp at c1
  refine wc_skip (?_)
 rotate_right 1
 focus
  intro c1
  simp at c1;have hne : a ≠ b := (by rintro rfl;exact c1 rfl)
  refine wa_ (wc_region (w_ (a_ (h:=wo_nil (e_ (h:=aft_normal (wc_ret (?_))))))))
 all_goals first
 | refine aft_ret ?_
 | (
  refine aft_normal ?_
  refine wa_ (wa_ (wc_region (w_ (a_ (h:=wo_nil (e_ (h:=aft_normal (wc_block (?_)))))))))
  refine wc_loopI (l_eqI a b z z' ha (by omega) 0 (by omega) _ (by simp [normE])) ?_ ?_
  rotate_right 1
  focus
   intro c2
   skip
  rotate_right 1
  focus
   intro c2
   skip
  all_goals first | refine blk_ret ?_ | refine blk_exit ?_
  all_goals first
  | refine aft_ret ?_
  | (
   refine aft_normal ?_
   refine wa_ (wc_region (w_ (a_ (h:=wo_nil (e_ (h:=aft_normal (wc_ret (?_))))))))
   )
  )
 all_goals (refine fin_ (hr:=(res_tmp rfl res_nil)) (h:=?_);(focus (first | (simp_all;done) | (simp_all <;> omega) | (simp_all <;> split <;> simp_all <;> omega))))
theorem l_toI (a : List Int) (z : Nat) (ha : a.length < 2000000000) : ∀ x : Nat × List Int,(x.1 ≤ a.length ∧ x.2.length = a.length ∧ x.2.take x.1 = a.take x.1) → ∀ s,normE 1 (some [0,3,4]) s = ⟨[(0,.lst false z (ints a)),(3,.ref 1 0 a.length),(4,.int .i64 x.1)],[(1,⟨false,false,1,ints x.2,0⟩)],2⟩ →
 oc.loop 149 3 s = some (.exit 0,⟨[(3,.ref 1 0 a.length)],[(1,⟨false,false,1,ints a,0⟩)],2⟩) := by
 refine loop_ind (σ:=Nat × List Int) (fun x => a.length - x.1) _ (fun x => ⟨[(0,.lst false z (ints a)),(3,.ref 1 0 a.length),(4,.int .i64 x.1)],[(1,⟨false,false,1,ints x.2,0⟩)],2⟩) _ ?_
 rintro ⟨i,r⟩ ⟨hi,hr,ht⟩ ih s hs
 refine loop_s cd149 rfl rfl hs ?_
 refine wa_ (wa_ (wc_region (w_ (m_ (h:=w_ (m_ (h:=w_ (le (h:=w_ (b_ (h:=wo_nil (e_ (h:=aft_normal (?_))))))))))))))
 refine c_ (h1:=?_) (h2:=?_)
 rotate_right 1
 focus
  intro c1
  simp at c1 hi hr ht;have : i = a.length := (by omega);subst this;rw [← hr] at ht;simp at ht;rw [hr] at ht;simp at ht;subst ht
  refine wc_exit (?_)
 rotate_right 1
 focus
  intro c1
  simp at c1;have hw := wrap_succ (i:=i) (by omega);obtain ⟨x,hx,d1,g1⟩ := ints_cut c1;obtain ⟨y,hy,_,g2⟩ := ints_cut (l:=r) (i:=i) (by simp at hr;omega);simp at g2
  refine wc_skip (?_)
 all_goals first
 | refine aft_exit ?_
 | (
  refine aft_normal ?_
  refine wa_ (wc_block (wc_region (w_ (m_ (h:=w_ (m_ (h:=w_ (m_ (h:=w_ (m_ (h:=w_ (x_ (h:=w_ (l_ (h:=w_ (x_ (h:=w0 (s_ (h:=wo_nil (e_ (h:=?_)))))))))))))))))))))
  refine blk_normal (aft_normal (wc_region (w_ (m_ (h:=w_ (b_ (h:=w_ (a_ (h:=wo_nil (e_ (h:=?_)))))))))))
  )
 all_goals first
 | (refine (ih ((i + 1,r.set i x)) (⟨by simp;omega,by simpa using hr,set_take ht hr hx⟩) ?_ _ ?_).trans ?_;(focus (first | omega | (simp;done) | (simp;omega)));(focus (simp [normE,hw];done));(focus (rfl)))
 | (apply end_leaf (ex:=(Ext.exit 0)) 1 (some [3]);(focus (simp [normE];rfl));(focus (simp)))
theorem e_toI (a : List Int) (z : Nat) (ha : a.length < 2000000000) : oc.call 149 [.lst false z (ints a)] = some (.lst true 1 (ints a),[]) := by
 refine fun_s rfl cd149 rfl rfl rfl (by simp;rfl) (by simp;rfl) ?_
 refine wa_ (wc_region (w_ (aN (h:=wo_nil (e_ (h:=aft_normal (wa_ (wc_region (w_ (m_ (h:=w_ (le (h:=w_ (mk (h:=w_ (a_ (h:=wo_nil (e_ (h:=?_)))))))))))))))))))
 refine aft_normal (wa_ (wa_ (wc_region (w_ (a_ (h:=wo_nil (e_ (h:=aft_normal (wc_block (?_))))))))))
 refine wc_loop (l_toI a z ha (0,List.replicate a.length 0) (by simp) _ (by simp [normE])) ?_
 refine blk_exit (aft_normal (wa_ (wc_region (w_ (m_ (h:=w_ (a_ (h:=wo_nil (e_ (h:=aft_normal (wc_ret (?_))))))))))))
 all_goals (refine fin_ (hr:=(res_tmp rfl res_nil)) (h:=?_);(focus (first | (simp_all;done) | (simp_all <;> omega) | (simp_all <;> split <;> simp_all <;> omega))))
def szI (c : Nat) (left : Int) : Int := if left < c then -1 else left - c
theorem e_szN (t : Bool) (sz : Nat) (d : Nd) (a : Int) (h : d.cells.length < 4611686018427387904) (ha : 0 ≤ a) (hb : a < 4000000000) : oc.call 102 [d.v false sz,.int .i64 a] = some (.int .i64 (szI d.cells.length a),[]) := by
 refine fun_s rfl cd102 rfl rfl rfl (by simp;rfl) (by simp;rfl) ?_
 unfold szI
 refine wa_ (wc_region (w_ (bx (h:=w_ (a_ (h:=wo_nil (e_ (h:=aft_normal (wa_ (wc_region (w_ (f_ (h:=w_ (l_ (h:=w_ (m_ (h:=w_ (ca (hc:=e_sz _ (ints d.cells) a (by simpa using (by omega)) ha (by omega)) (h:=?_)))))))))))))))))))
 refine w_ (a_ (h:=wo_nil (e_ (h:=aft_normal (wa_ (wa_ (wc_region (w_ (m_ (h:=w_ (b_ (h:=wo_nil (e_ (h:=aft_normal (?_)))))))))))))))
 refine c_ (h1:=?_) (h2:=?_)
 rotate_right 1
 focus
  intro c1
  simp at c1
  refine wc_skip (?_)
 rotate_right 1
 focus
  intro c1
  simp at c1
  refine wa_ (wc_region (w_ (a_ (h:=wo_nil (e_ (h:=aft_normal (wc_ret (?_))))))))
 all_goals first
 | refine aft_ret ?_
 | (
  refine aft_normal ?_
  refine wa_ (wc_region (w_ (m_ (h:=w_ (a_ (h:=wo_nil (e_ (h:=aft_normal (wc_ret (?_))))))))))
  )
 all_goals (refine fin_ (hr:=(res_tmp rfl res_nil)) (h:=?_);(focus (first | (simp_all;done) | (simp_all <;> omega) | (simp_all <;> split <;> simp_all <;> omega))))
theorem szI_neg {c : Nat} {a : Int} (h : szI c a < 0) : szI c a = -1 := by
  unfold szI at *
  split at h
  · rw [if_pos (by assumption)]
  · omega
def szL : List Nd → Int → Int
  | [],left => left
  | d :: r,left => if szI d.cells.length left < 0 then -1 else szL r (szI d.cells.length left)
theorem szL_neg : ∀ {l : List Nd} {a : Int},0 ≤ a → szL l a < 0 → szL l a = -1
  | [],a,h0,h => by simp [szL] at h;omega
  | d :: r,a,h0,h => by
    unfold szL at *
    by_cases hc : szI d.cells.length a < 0
    · rw [if_pos hc]
    · rw [if_neg hc] at h ⊢
      exact szL_neg (by omega) h
theorem e_toN (sz : Nat) (d : Nd) (h : d.cells.length < 2000000000) : oc.call 109 [d.v false sz] = some (d.v true 1,[]) := by
 refine fun_s rfl cd109 rfl rfl rfl (by simp;rfl) (by simp;rfl) ?_
 refine wa_ (wc_region (w_ (bx (h:=w_ (al (h:=wo_nil (e_ (h:=aft_normal (wa_ (wc_region (w_ (al (h:=wo_nil (e_ (h:=aft_normal (wa_ (?_)))))))))))))))))
 refine wc_region (w_ (f_ (h:=w_ (l_ (h:=w_ (f_ (h:=w0 (s_ (h:=wo_nil (e_ (h:=aft_normal (wa_ (wc_region (w_ (f_ (h:=w_ (l_ (h:=w_ (f_ (h:=?_))))))))))))))))))))
 refine w0 (s_ (h:=wo_nil (e_ (h:=aft_normal (wa_ (wc_region (w_ (f_ (h:=w_ (l_ (h:=w_ (f_ (h:=w0 (s_ (h:=wo_nil (e_ (h:=aft_normal (wa_ (?_)))))))))))))))))))
 refine wc_region (w_ (f_ (h:=w_ (l_ (h:=w_ (f_ (h:=w0 (s_ (h:=wo_nil (e_ (h:=aft_normal (wa_ (wc_region (w_ (f_ (h:=w_ (l_ (h:=w_ (f_ (h:=?_))))))))))))))))))))
 refine w0 (s_ (h:=wo_nil (e_ (h:=aft_normal (wa_ (wc_region (w_ (f_ (h:=w_ (l_ (h:=w_ (f_ (h:=w0 (s_ (h:=wo_nil (e_ (h:=aft_normal (wa_ (?_)))))))))))))))))))
 refine wc_region (w_ (f_ (h:=w_ (l_ (h:=w_ (ca (hc:=e_toI _ _ h) (h:=w_ (f_ (h:=w0 (s_ (h:=wo_nil (e_ (h:=aft_normal (wa_ (wc_region (w_ (l_ (h:=w0 (s_ (h:=?_))))))))))))))))))))
 refine wo_nil (e_ (h:=aft_normal (wc_ret (?_))))
 all_goals (refine fin_ (hr:=(res_cell (tys_ok.zero _ _ rfl) rfl (by simp;rfl) (by rfl) res_nil)) (h:=?_);(focus (simp [Nd.v])))
theorem e_eqN (sz sz' : Nat) (d g : Nd) (h : d.cells.length < 2000000000) (h' : g.cells.length < 2000000000) : oc.call 113 [d.v false sz,g.v false sz'] = some (.bool (decide (d = g)),[]) := by
 refine fun_s rfl cd113 rfl rfl rfl (by simp;rfl) (by simp;rfl) ?_
 refine wa_ (wc_region (w_ (bx (h:=w_ (bx (h:=w_ (a_ (h:=wo_nil (e_ (h:=aft_normal (wa_ (wa_ (wc_region (w_ (f_ (h:=w_ (l_ (h:=?_))))))))))))))))))
 refine w_ (f_ (h:=w_ (l_ (h:=w_ (bE (h:=wo_nil (e_ (h:=aft_normal (?_)))))))))
 refine c_ (h1:=?_) (h2:=?_)
 rotate_right 1
 focus
  intro c1
  refine wc_skip (?_)
 rotate_right 1
 focus
  intro c1
  refine wa_ (wc_region (w_ (a_ (h:=wo_nil (e_ (h:=aft_normal (wc_ret (?_))))))))
 all_goals first
 | refine aft_ret ?_
 | (
  refine aft_normal ?_
  refine wa_ (wa_ (wc_region (w_ (f_ (h:=w_ (l_ (h:=w_ (f_ (h:=w_ (l_ (h:=w_ (bE (h:=wo_nil (e_ (h:=aft_normal (?_))))))))))))))))
  refine c_ (h1:=?_) (h2:=?_)
  rotate_right 1
  focus
   intro c2
   refine wc_skip (?_)
  rotate_right 1
  focus
   intro c2
   refine wa_ (wc_region (w_ (a_ (h:=wo_nil (e_ (h:=aft_normal (wc_ret (?_))))))))
  all_goals first
  | refine aft_ret ?_
  | (
   refine aft_normal ?_
   refine wa_ (wa_ (wc_region (w_ (f_ (h:=w_ (l_ (h:=w_ (f_ (h:=w_ (l_ (h:=w_ (bE (h:=wo_nil (e_ (h:=aft_normal (?_))))))))))))))))
   refine c_ (h1:=?_) (h2:=?_)
   rotate_right 1
   focus
    intro c3
    refine wc_skip (?_)
   rotate_right 1
   focus
    intro c3
    refine wa_ (wc_region (w_ (a_ (h:=wo_nil (e_ (h:=aft_normal (wc_ret (?_))))))))
   all_goals first
   | refine aft_ret ?_
   | (
    refine aft_normal ?_
    refine wa_ (wa_ (wc_region (w_ (f_ (h:=w_ (l_ (h:=w_ (f_ (h:=w_ (l_ (h:=w_ (bE (h:=wo_nil (e_ (h:=aft_normal (?_))))))))))))))))
    refine c_ (h1:=?_) (h2:=?_)
    rotate_right 1
    focus
     intro c4
     refine wc_skip (?_)
    rotate_right 1
    focus
     intro c4
     refine wa_ (wc_region (w_ (a_ (h:=wo_nil (e_ (h:=aft_normal (wc_ret (?_))))))))
    all_goals first
    | refine aft_ret ?_
    | (
     refine aft_normal ?_
     refine wa_ (wa_ (wc_region (w_ (f_ (h:=w_ (l_ (h:=w_ (f_ (h:=w_ (l_ (h:=w_ (bE (h:=wo_nil (e_ (h:=aft_normal (?_))))))))))))))))
     refine c_ (h1:=?_) (h2:=?_)
     rotate_right 1
     focus
      intro c5
      refine wc_skip (?_)
     rotate_right 1
     focus
      intro c5
      refine wa_ (wc_region (w_ (a_ (h:=wo_nil (e_ (h:=aft_normal (wc_ret (?_))))))))
     all_goals first
     | refine aft_ret ?_
     | (
      refine aft_normal ?_
      refine wa_ (wa_ (wc_region (w_ (f_ (h:=w_ (l_ (h:=w_ (f_ (h:=w_ (l_ (h:=w_ (bE (h:=wo_nil (e_ (h:=aft_normal (?_))))))))))))))))
      refine c_ (h1:=?_) (h2:=?_)
      rotate_right 1
      focus
       intro c6
       refine wc_skip (?_)
      rotate_right 1
      focus
       intro c6
       refine wa_ (wc_region (w_ (a_ (h:=wo_nil (e_ (h:=aft_normal (wc_ret (?_))))))))
      all_goals first
      | refine aft_ret ?_
      | (
       refine aft_normal ?_
       refine wa_ (wa_ (wc_region (w_ (f_ (h:=w_ (l_ (h:=w_ (f_ (h:=w_ (l_ (h:=w_ (ca (hc:=e_eqI _ _ _ _ (by omega) (by omega)) (h:=w_ (u_ (h:=wo_nil (e_ (h:=aft_normal (?_))))))))))))))))))
       refine c_ (h1:=?_) (h2:=?_)
       rotate_right 1
       focus
        intro c7
        refine wc_skip (?_)
       rotate_right 1
       focus
        intro c7
        refine wa_ (wc_region (w_ (a_ (h:=wo_nil (e_ (h:=aft_normal (wc_ret (?_))))))))
       all_goals first
       | refine aft_ret ?_
       | (
        refine aft_normal ?_
        refine wa_ (wc_region (w_ (a_ (h:=wo_nil (e_ (h:=aft_normal (wc_ret (?_))))))))
        )
       )
      )
     )
    )
   )
  )
 all_goals (refine fin_ (hr:=(res_tmp rfl res_nil)) (h:=?_);(focus (simp_all [Nd.eq_iff])))
def okN (l : List Nd) : Prop := ∀ d ∈ l,d.cells.length < 2000000
def okB (l : List Nd) : Prop := l.length ≤ 140737488351232 ∧ ∀ d ∈ l,d.cells.length ≤ 140737488351232
theorem szI_le {c : Nat} {a : Int} (h : 0 ≤ szI c a) : (c : Int) ≤ a := by
  unfold szI at h
  split at h <;> omega
theorem szL_ok : ∀ {l : List Nd} {a : Int},0 ≤ szL l a → ∀ d ∈ l,(d.cells.length : Int) ≤ a
  | [],a,h,d,hd => by cases hd
  | x :: r,a,h,d,hd => by
    unfold szL at h
    by_cases hc : szI x.cells.length a < 0
    · rw [if_pos hc] at h;omega
    · rw [if_neg hc] at h
      have h1 := szI_le (c:=x.cells.length) (a:=a) (by omega)
      rcases List.mem_cons.1 hd with rfl | hd
      · exact h1
      · have := szL_ok h d hd
        unfold szI at this
        split at this <;> omega
theorem l_szN (l : List Nd) (sz : Nat) (ho : okB l) : ∀ x : Nat × Int,(x.1 ≤ l.length ∧ 0 ≤ x.2 ∧ x.2 < 2000000) → ∀ s,normE 2 (some [0,1,5]) s = ⟨[(0,.lst false 0 (nds false sz l)),(1,.int .i64 x.2),(5,.int .i64 x.1)],[],2⟩ →
 oc.loop 38 5 s = some (if 0 ≤ szL (l.drop x.1) x.2 then (.exit 0,⟨[(1,.int .i64 (szL (l.drop x.1) x.2))],[],2⟩) else (.ret,⟨[(1,.int .i64 (-1)),(4,.int .i64 (-1))],[],2⟩)) := by
 refine loop_ind (σ:=Nat × Int) (fun x => l.length - x.1) _ (fun x => ⟨[(0,.lst false 0 (nds false sz l)),(1,.int .i64 x.2),(5,.int .i64 x.1)],[],2⟩) _ ?_
 rintro ⟨i,a⟩ ⟨hi,ha,hb⟩ ih s hs
 have hl := ho.1
 refine loop_s cd38 rfl rfl hs ?_
 refine wa_ (wa_ (wc_region (w_ (m_ (h:=w_ (m_ (h:=w_ (le (h:=w_ (b_ (h:=wo_nil (e_ (h:=aft_normal (?_))))))))))))))
 refine c_ (h1:=?_) (h2:=?_)
 rotate_right 1
 focus
  intro c1
  simp at c1 hi ha;have : i = l.length := (by omega);subst this
  refine wc_exit (?_)
 rotate_right 1
 focus
  intro c1
  simp at c1;have hw := wrap_succ (i:=i) (by simp at hi;omega);obtain ⟨d,hx,d1,g1⟩ := nds_cut (t:=false) (s:=sz) c1;have hd := ho.2 d (List.mem_of_getElem? hx)
  refine wc_skip (?_)
 all_goals first
 | refine aft_exit ?_
 | (
  refine aft_normal ?_
  refine wa_ (wc_block (wa_ (wc_region (w_ (m_ (h:=w_ (m_ (h:=w_ (x_ (h:=w_ (l_ (h:=w_ (m_ (h:=w_ (ca (hc:=e_szN false 0 d a (by omega) ha (by simp at hb;omega)) (h:=w_ (a_ (h:=wo_nil (e_ (h:=?_))))))))))))))))))))
  refine aft_normal (wa_ (wc_region (w_ (m_ (h:=w_ (b_ (h:=wo_nil (e_ (h:=aft_normal (?_))))))))))
  refine c_ (h1:=?_) (h2:=?_)
  rotate_right 1
  focus
   intro c2
   refine wc_skip (?_)
  rotate_right 1
  focus
   intro c2
   refine wa_ (wc_region (w_ (a_ (h:=wo_nil (e_ (h:=aft_normal (wc_ret (?_))))))))
  all_goals first | refine blk_normal ?_ | refine blk_ret ?_
  all_goals first
  | refine aft_ret ?_
  | (
   refine aft_normal ?_
   refine wc_region (w_ (m_ (h:=w_ (b_ (h:=w_ (a_ (h:=wo_nil (e_ (h:=?_)))))))))
   )
  )
 all_goals first
 | (refine (ih ((i + 1,szI d.cells.length a)) (⟨by simp;omega,by simp at c2;exact c2,by unfold szI;split <;> simp at hb ⊢ <;> omega⟩) ?_ _ ?_).trans ?_;(focus (first | omega | (simp;done) | (simp;omega)));(focus (simp [normE,hw];done));(focus (simp at c2;simp only [d1,szL,if_neg (Int.not_lt.mpr c2)])))
 | (apply end_leaf (ex:=Ext.ret) 2 (some [1,4]);(focus (simp [normE];rfl));(focus (simp at c2;have := szI_neg c2;simp [d1,szL,this])))
 | (apply end_leaf (ex:=(Ext.exit 0)) 2 (some [1,4]);(focus (simp [normE];rfl));(focus (simp [szL];omega)))
def szP (l : List Nd) (a : Int) : Int := if a < l.length then -1 else szL l (a - l.length)
theorem szP_ok {l : List Nd} {a : Int} (ha : a < 2000000) (h : 0 ≤ szP l a) : l.length < 2000000 ∧ okN l ∧ szP l a ≤ a := by
  unfold szP at *
  split at h
  · omega
  · rename_i hl
    rw [if_neg hl]
    have h2 : ∀ (l : List Nd) (a : Int),0 ≤ a → szL l a ≤ a := by
      intro l
      induction l with
      | nil => intro a ha;simp [szL]
      | cons x r ih =>
        intro a ha
        unfold szL
        split
        · omega
        · have h3 : szI x.cells.length a ≤ a := by unfold szI;split <;> omega
          have := ih (szI x.cells.length a) (by omega)
          omega
    have := h2 l (a - l.length) (by omega)
    exact ⟨by omega,fun d hd => by have := szL_ok h d hd;omega,by omega⟩
theorem e_szNS (l : List Nd) (sz : Nat) (a : Int) (ho : okB l) (ha : 0 ≤ a) (hb : a < 2000000) : oc.call 38 [.lst false 0 (nds false sz l),.int .i64 a] = some (.int .i64 (szP l a),[]) := by
 refine fun_s rfl cd38 rfl rfl rfl (by simp;rfl) (by simp;rfl) ?_
 unfold szP
 have hl := ho.1
 have hw : IntKind.i64.wrap (a - l.length) = a - l.length := wrap_id (by omega) (by omega)
 refine wa_ (wc_region (w_ (a_ (h:=wo_nil (e_ (h:=aft_normal (wa_ (wc_region (w_ (m_ (h:=w_ (m_ (h:=w_ (le (h:=w_ (b_ (h:=w_ (a_ (h:=?_)))))))))))))))))))
 refine wo_nil (e_ (h:=aft_normal (wa_ (wa_ (wc_region (w_ (m_ (h:=w_ (b_ (h:=wo_nil (e_ (h:=aft_normal (?_)))))))))))))
 refine c_ (h1:=?_) (h2:=?_)
 rotate_right 1
 focus
  intro c1
  simp [hw] at c1
  refine wc_skip (?_)
 rotate_right 1
 focus
  intro c1
  simp at c1
  refine wa_ (wc_region (w_ (a_ (h:=wo_nil (e_ (h:=aft_normal (wc_ret (?_))))))))
 all_goals first
 | refine aft_ret ?_
 | (
  refine aft_normal ?_
  refine wa_ (wa_ (wc_region (w_ (a_ (h:=wo_nil (e_ (h:=aft_normal (wc_block (?_)))))))))
  refine wc_loopI (l_szN l sz ho (0,a - l.length) ⟨by simp,by simp;omega,by simp;omega⟩ _ (by simp [normE,hw])) ?_ ?_
  rotate_right 1
  focus
   intro c2
   skip
  rotate_right 1
  focus
   intro c2
   skip
  all_goals first | refine blk_ret ?_ | refine blk_exit ?_
  all_goals first
  | refine aft_ret ?_
  | (
   refine aft_normal ?_
   refine wa_ (wc_region (w_ (m_ (h:=w_ (a_ (h:=wo_nil (e_ (h:=aft_normal (wc_ret (?_))))))))))
   )
  )
 all_goals (refine fin_ (hr:=(res_tmp rfl res_nil)) (h:=?_);(focus (first | (simp_all;done) | (have h3 := szL_neg (l:=l) (a:=a - l.length) (by omega) (by simpa using c2);simp_all;done) | (simp_all;omega))))
theorem l_toN (l : List Nd) (sz : Nat) (hl : l.length < 2000000) (ho : okN l) : ∀ x : Nat × List Nd,(x.1 ≤ l.length ∧ x.2.length = l.length ∧ x.2.take x.1 = l.take x.1) → ∀ s,normE 1 (some [0,3,4]) s = ⟨[(0,.lst false 0 (nds false sz l)),(3,.ref 1 0 l.length),(4,.int .i64 x.1)],[(1,⟨false,false,7,nds true 1 x.2,0⟩)],2⟩ →
 oc.loop 41 3 s = some (.exit 0,⟨[(3,.ref 1 0 l.length)],[(1,⟨false,false,7,nds true 1 l,0⟩)],2⟩) := by
 refine loop_ind (σ:=Nat × List Nd) (fun x => l.length - x.1) _ (fun x => ⟨[(0,.lst false 0 (nds false sz l)),(3,.ref 1 0 l.length),(4,.int .i64 x.1)],[(1,⟨false,false,7,nds true 1 x.2,0⟩)],2⟩) _ ?_
 rintro ⟨i,r⟩ ⟨hi,hr,ht⟩ ih s hs
 refine loop_s cd41 rfl rfl hs ?_
 refine wa_ (wa_ (wc_region (w_ (m_ (h:=w_ (m_ (h:=w_ (le (h:=w_ (b_ (h:=wo_nil (e_ (h:=aft_normal (?_))))))))))))))
 refine c_ (h1:=?_) (h2:=?_)
 rotate_right 1
 focus
  intro c1
  simp at c1 hi hr ht;have : i = l.length := (by omega);subst this;rw [← hr] at ht;simp at ht;rw [hr] at ht;simp at ht;subst ht
  refine wc_exit (?_)
 rotate_right 1
 focus
  intro c1
  simp at c1;have hw := wrap_succ (i:=i) (by simp at hi;omega);obtain ⟨d,hx,d1,g1⟩ := nds_cut (t:=false) (s:=sz) c1;have hd := ho d (List.mem_of_getElem? hx);obtain ⟨y,hy,_,g2⟩ := nds_cut (t:=true) (s:=1) (l:=r) (i:=i) (by simp at hr;omega);simp at g2
  refine wc_skip (?_)
 all_goals first
 | refine aft_exit ?_
 | (
  refine aft_normal ?_
  refine wa_ (wc_block (wc_region (w_ (m_ (h:=w_ (m_ (h:=w_ (m_ (h:=w_ (m_ (h:=w_ (x_ (h:=w_ (l_ (h:=w_ (ca (hc:=e_toN 0 d (by omega)) (h:=w_ (x_ (h:=w0 (s_ (h:=?_)))))))))))))))))))))
  refine wo_nil (e_ (h:=blk_normal (aft_normal (wc_region (w_ (m_ (h:=w_ (b_ (h:=w_ (a_ (h:=wo_nil (e_ (h:=?_)))))))))))))
  )
 all_goals first
 | (refine (ih ((i + 1,r.set i d)) (⟨by simp;omega,by simpa using hr,set_take ht hr hx⟩) ?_ _ ?_).trans ?_;(focus (first | omega | (simp;done) | (simp;omega)));(focus (simp [normE,hw];done));(focus (rfl)))
 | (apply end_leaf (ex:=(Ext.exit 0)) 1 (some [3]);(focus (simp [normE];rfl));(focus (simp)))
theorem e_toNS (l : List Nd) (sz : Nat) (hl : l.length < 2000000) (ho : okN l) : oc.call 41 [.lst false 0 (nds false sz l)] = some (.lst true 7 (nds true 1 l),[]) := by
 refine fun_s rfl cd41 rfl rfl rfl (by simp;rfl) (by simp;rfl) ?_
 refine wa_ (wc_region (w_ (aN (h:=wo_nil (e_ (h:=aft_normal (wa_ (wc_region (w_ (m_ (h:=w_ (le (h:=w_ (mk (h:=w_ (a_ (h:=wo_nil (e_ (h:=?_)))))))))))))))))))
 refine aft_normal (wa_ (wa_ (wc_region (w_ (a_ (h:=wo_nil (e_ (h:=aft_normal (wc_block (?_))))))))))
 refine wc_loop (l_toN l sz hl ho (0,List.replicate l.length ⟨0,0,0,0,0,0,[]⟩) (by simp) _ (by simp [normE,nds_zero])) ?_
 refine blk_exit (aft_normal (wa_ (wc_region (w_ (m_ (h:=w_ (a_ (h:=wo_nil (e_ (h:=aft_normal (wc_ret (?_))))))))))))
 all_goals (refine fin_ (hr:=(res_tmp rfl res_nil)) (h:=?_);(focus (first | (simp_all;done) | (simp_all <;> omega) | (simp_all <;> split <;> simp_all <;> omega))))
theorem l_eqNS (a b : List Nd) (z z' : Nat) (ha : a.length < 2000000) (hab : a.length = b.length) (oa : okN a) (ob : okN b) : ∀ i : Nat,i ≤ a.length → ∀ s,normE 2 (some [0,1,5]) s = ⟨[(0,.lst false 0 (nds false z a)),(1,.lst false 0 (nds false z' b)),(5,.int .i64 i)],[],2⟩ →
 oc.loop 44 4 s = some (if a.drop i = b.drop i then (.exit 0,⟨[],[],2⟩) else (.ret,⟨[(4,.bool false)],[],2⟩)) := by
 refine loop_ind (fun i => a.length - i) _ (fun i => ⟨[(0,.lst false 0 (nds false z a)),(1,.lst false 0 (nds false z' b)),(5,.int .i64 i)],[],2⟩) _ ?_
 intro i hi ih s hs
 refine loop_s cd44 rfl rfl hs ?_
 refine wa_ (wa_ (wc_region (w_ (m_ (h:=w_ (m_ (h:=w_ (le (h:=w_ (b_ (h:=wo_nil (e_ (h:=aft_normal (?_))))))))))))))
 refine c_ (h1:=?_) (h2:=?_)
 rotate_right 1
 focus
  intro c1
  simp at c1;have : i = a.length := (by omega);subst this
  refine wc_exit (?_)
 rotate_right 1
 focus
  intro c1
  simp at c1;have hw := wrap_succ (i:=i) (by omega);obtain ⟨x,hx,d1,g1⟩ := nds_cut (t:=false) (s:=z) c1;obtain ⟨y,hy,d2,g2⟩ := nds_cut (t:=false) (s:=z') (l:=b) (i:=i) (by omega);have h1 := oa x (List.mem_of_getElem? hx);have h2 := ob y (List.mem_of_getElem? hy)
  refine wc_skip (?_)
 all_goals first
 | refine aft_exit ?_
 | (
  refine aft_normal ?_
  refine wa_ (wc_block (wa_ (wc_draw (y_ (m_ (h:=ax_ (h:=y_ (m_ (h:=ax_ (h:=y_ (x_ (h:=ax_ (h:=y_ (l_ (h:=ax_ (h:=y_ (m_ (h:=ax_ (h:=y_ (m_ (h:=ax_ (h:=y_ (x_ (h:=ax_ (h:=y_ (l_ (h:=ax_ (h:=?_))))))))))))))))))))))))))))
  refine y_ (ca (hc:=e_eqN 0 0 x y (by omega) (by omega)) (h:=ax_ (h:=y_ (u_ (h:=ax_ (h:=wo_nil (ed (h:=aft_normal (?_)))))))))
  refine c_ (h1:=?_) (h2:=?_)
  rotate_right 1
  focus
   intro c2
   refine wc_skip (?_)
  rotate_right 1
  focus
   intro c2
   refine wa_ (wc_region (w_ (a_ (h:=wo_nil (e_ (h:=aft_normal (wc_ret (?_))))))))
  all_goals first | refine blk_normal ?_ | refine blk_ret ?_
  all_goals first
  | refine aft_ret ?_
  | (
   refine aft_normal ?_
   refine wc_region (w_ (m_ (h:=w_ (b_ (h:=w_ (a_ (h:=wo_nil (e_ (h:=?_)))))))))
   )
  )
 all_goals first
 | (refine (ih (i + 1) (by omega) ?_ _ ?_).trans ?_;(focus (first | omega | (simp;done) | (simp;omega)));(focus (simp [normE,hw];done));(focus (simp at c2;rw [d1,d2];simp [c2])))
 | (apply end_leaf (ex:=Ext.ret) 2 (some [4]);(focus (simp [normE];rfl));(focus (simp at c2;rw [d1,d2];simp [c2])))
 | (apply end_leaf (ex:=(Ext.exit 0)) 2 (some [4]);(focus (simp [normE];rfl));(focus (rw [if_pos (by simp [hab])])))
theorem e_eqNS (a b : List Nd) (z z' : Nat) (ha : a.length < 2000000) (hb : b.length < 2000000) (oa : okN a) (ob : okN b) : oc.call 44 [.lst false 0 (nds false z a),.lst false 0 (nds false z' b)] = some (.bool (decide (a = b)),[]) := by
 refine fun_s rfl cd44 rfl rfl rfl (by simp;rfl) (by simp;rfl) ?_
 refine wa_ (wc_region (w_ (a_ (h:=wo_nil (e_ (h:=aft_normal (wa_ (wa_ (wc_region (w_ (m_ (h:=w_ (le (h:=w_ (m_ (h:=w_ (le (h:=?_))))))))))))))))))
 refine w_ (bE (h:=wo_nil (e_ (h:=aft_normal (?_)))))
 refine c_ (h1:=?_) (h2:=?_)
 rotate_right 1
 focus
  intro c1
  simp at c1
  refine wc_skip (?_)
 rotate_right 1
 focus
  intro c1
  simp at c1;have hne : a ≠ b := (by rintro rfl;exact c1 rfl)
  refine wa_ (wc_region (w_ (a_ (h:=wo_nil (e_ (h:=aft_normal (wc_ret (?_))))))))
 all_goals first
 | refine aft_ret ?_
 | (
  refine aft_normal ?_
  refine wa_ (wa_ (wc_region (w_ (a_ (h:=wo_nil (e_ (h:=aft_normal (wc_block (?_)))))))))
  refine wc_loopI (l_eqNS a b z z' ha (by omega) oa ob 0 (by omega) _ (by simp [normE])) ?_ ?_
  rotate_right 1
  focus
   intro c2
   skip
  rotate_right 1
  focus
   intro c2
   skip
  all_goals first | refine blk_ret ?_ | refine blk_exit ?_
  all_goals first
  | refine aft_ret ?_
  | (
   refine aft_normal ?_
   refine wa_ (wc_region (w_ (a_ (h:=wo_nil (e_ (h:=aft_normal (wc_ret (?_))))))))
   )
  )
 all_goals (refine fin_ (hr:=(res_tmp rfl res_nil)) (h:=?_);(focus (first | (simp_all;done) | (simp_all <;> omega) | (simp_all <;> split <;> simp_all <;> omega))))
end Go.Proofs.Ytgkbmiaimjpbfaa.Ev
namespace Go.Proofs.Ytgkbmiaimjpbfaa.Ev
open Go
set_option maxRecDepth 100000
set_option linter.unusedSimpArgs false
set_option linter.unusedVariables false
set_option maxHeartbeats 2000000
def lz (t : Bool) (n : Nat) : Nat := match t with | true => n | false => 0
@[simp] theorem lz_t (n : Nat) : lz true n = n := rfl
@[simp] theorem lz_f (n : Nat) : lz false n = 0 := rfl
theorem lst_share (t : Bool) (s : Nat) (xs : List V) : (V.lst t s xs).share = .lst false 0 (V.shareL xs) := by cases t <;> rfl
theorem lst_mention (t : Bool) (s : Nat) (xs : List V) : (V.lst t s xs).mention = [] := by cases t <;> rfl
structure Ct where
  pl : Int
  ep : Int
  n : Int
  deriving DecidableEq
theorem Ct.eq_iff {d g : Ct} : d = g ↔ d.pl = g.pl ∧ d.ep = g.ep ∧ d.n = g.n := by
  cases d;cases g;simp
def Ct.v (x : Ct) : V := .agg [.int .i64 x.pl,.int .i64 x.ep,.int .i64 x.n]
def cts (l : List Ct) : List V := l.map (Ct.v)
@[simp] theorem cts_len (l : List Ct) : (cts l).length = l.length := by simp [cts]
@[simp] theorem cts_nil : cts [] = [] := rfl
@[simp] theorem cts_cons (x : Ct) (l : List Ct) : cts (x :: l) = x.v :: cts l := rfl
@[simp] theorem cts_join (l m : List Ct) : cts l ++ cts m = cts (l ++ m) := by simp [cts]
@[simp] theorem cts_snoc (l : List Ct) (x : Ct) : cts l ++ [x.v] = cts (l ++ [x]) := by simp [cts]
@[simp] theorem cts_snoc2 (l : List Ct) (a : Int) (b : Int) (c : Int) : cts l ++ [V.agg [.int .i64 a,.int .i64 b,.int .i64 c]] = cts (l ++ [⟨a,b,c⟩]) := by simp [cts,Ct.v]
@[simp] theorem cts_set2 (l : List Ct) (j : Nat) (a : Int) (b : Int) (c : Int) : (cts l).set j (V.agg [.int .i64 a,.int .i64 b,.int .i64 c]) = cts (l.set j ⟨a,b,c⟩) := by simp [cts,Ct.v,List.map_set]
theorem cts_zero (m : Nat) : List.replicate m (V.agg [.int .i64 0,.int .i64 0,.int .i64 0]) = cts (List.replicate m ⟨0,0,0⟩) := by simp [cts,Ct.v]
@[simp] theorem cts_set (l : List Ct) (i : Nat) (x : Ct) : (cts l).set i (x.v) = cts (l.set i x) := by simp [cts,List.map_set]
theorem cts_get {l : List Ct} {i : Nat} {x : Ct} (h : l[i]? = some x) : (cts l)[i]? = some (x.v) := by simp [cts,h]
theorem cts_at {l : List Ct} {i : Nat} (h : i < l.length) : (cts l)[(i : Int).toNat]? = some (l[i].v) := cts_get (by simp [h])
theorem cts_cut {l : List Ct} {i : Nat} (h : i < l.length) : ∃ x,l[i]? = some x ∧ l.drop i = x :: l.drop (i + 1) ∧ (cts l)[(i : Int).toNat]? = some (x.v) :=
  ⟨l[i],by simp [h],List.drop_eq_getElem_cons h,cts_at h⟩
@[simp] theorem cts_take (n : Nat) (l : List Ct) : (cts l).take n = cts (l.take n) := by simp [cts,List.map_take]
@[simp] theorem cts_drop (n : Nat) (l : List Ct) : (cts l).drop n = cts (l.drop n) := by simp [cts,List.map_drop]
@[simp] theorem Ct.cells_v (x : Ct) : (x.v).cells = 3 := rfl
@[simp] theorem Ct.mention (x : Ct) : V.mention (x.v) = [] := by simp [Ct.v,V.mention,V.mentionL,lst_mention]
@[simp] theorem Ct.share (x : Ct) : (x.v).share = x.v := by simp [Ct.v,V.share,V.shareL,lst_share]
@[simp] theorem cts_shareL (l : List Ct) : V.shareL (cts l) = cts l := by
  induction l with
  | nil => rfl
  | cons x l ih => simp [V.shareL,ih]
@[simp] theorem Ct.snap (x : Ct) (q : St) : V.snap q (x.v) = some (x.v) := by simp [Ct.v,V.snap,V.snapL,mp]
@[simp] theorem Ct.snapA (x : Ct) (q : St) : V.snapA q (x.v) = some (x.v) := Ct.snap x q
@[simp] theorem Ct.snapP (x : Ct) (q : St) : V.snapP q (x.v) = some (x.v) := Ct.snap x q
@[simp] theorem Ct.accM (x : Ct) : V.accM (x.v) = [] := by simp [Ct.v,V.accM,V.accML]
@[simp] theorem Ct.accF (x : Ct) : V.accF (x.v) = [] := by simp [Ct.v,V.accF,V.accFL]
@[simp] theorem Ct.ren (x : Ct) (ρ : Nat → Option Nat) (vr : Nat → Nat) : V.ren ρ vr (x.v) = x.v := by simp [Ct.v,V.ren,V.renL]
@[simp] theorem Ct.bA (i : Nat) (x : Ct) (r : List V) : bindArgs i (x.v :: r) = ((i,x.v) :: (bindArgs (i + 1) r).1,(bindArgs (i + 1) r).2) := rfl
@[simp] theorem Ct.lodF (x : Ct) (o i ver : Nat) (fs : List Nat) : V.lod o i ver fs (x.v) = x.v := by simp [Ct.v,V.lod,V.lodL]
@[simp] theorem Ct.fz (x : Ct) (s : St) : V.fz x.v s = some (x.v,s) := by simp [Ct.v,V.fz,V.fzL,mp]
@[simp] theorem Ct.fzI (x : Ct) (s : St) : V.fzI x.v s = some (x.v,s) := by simp [Ct.v,V.fz,V.fzI,V.fzIL,mp]
@[simp] theorem Ct.scal (x : Ct) : V.scal (x.v) = true := by simp [Ct.v,V.scal,V.scalL]
@[simp] theorem Ct.isTup (x : Ct) : (x.v).isTup = false := rfl
@[simp] theorem Ct.tidyT (x : Ct) : V.tidy (x.v) = true := by simp [Ct.v,V.tidy,V.tidyL]
@[simp] theorem cts_tidyT (l : List Ct) : V.tidyL (cts l) = true := by
  induction l with
  | nil => rfl
  | cons x l ih => simp [V.tidyL,ih]
@[simp] theorem Ct.thaw (x : Ct) (id : Nat) : V.thaw id x.v = (x.v,[],id) := by simp [Ct.v,V.thaw,V.thawL]
structure Et where
  row : List Int
  w : Int
  deriving DecidableEq
theorem Et.eq_iff {d g : Et} : d = g ↔ d.row = g.row ∧ d.w = g.w := by
  cases d;cases g;simp
def Et.v (t : Bool) (x : Et) : V := .agg [.lst t (lz t 1) (ints x.row),.int .i64 x.w]
def ets (t : Bool) (l : List Et) : List V := l.map (Et.v t)
@[simp] theorem ets_len (t : Bool) (l : List Et) : (ets t l).length = l.length := by simp [ets]
@[simp] theorem ets_nil (t : Bool) : ets t [] = [] := rfl
@[simp] theorem ets_cons (t : Bool) (x : Et) (l : List Et) : ets t (x :: l) = x.v t :: ets t l := rfl
@[simp] theorem ets_join (t : Bool) (l m : List Et) : ets t l ++ ets t m = ets t (l ++ m) := by simp [ets]
@[simp] theorem ets_snoc (t : Bool) (l : List Et) (x : Et) : ets t l ++ [x.v t] = ets t (l ++ [x]) := by simp [ets]
@[simp] theorem ets_snocT2 (l : List Et) (a : List Int) (b : Int) : ets true l ++ [V.agg [.lst true 1 (ints a),.int .i64 b]] = ets true (l ++ [⟨a,b⟩]) := by simp [ets,Et.v]
@[simp] theorem ets_setT2 (l : List Et) (j : Nat) (a : List Int) (b : Int) : (ets true l).set j (V.agg [.lst true 1 (ints a),.int .i64 b]) = ets true (l.set j ⟨a,b⟩) := by simp [ets,Et.v,List.map_set]
@[simp] theorem ets_snocF2 (l : List Et) (a : List Int) (b : Int) : ets false l ++ [V.agg [.lst false 0 (ints a),.int .i64 b]] = ets false (l ++ [⟨a,b⟩]) := by simp [ets,Et.v]
@[simp] theorem ets_setF2 (l : List Et) (j : Nat) (a : List Int) (b : Int) : (ets false l).set j (V.agg [.lst false 0 (ints a),.int .i64 b]) = ets false (l.set j ⟨a,b⟩) := by simp [ets,Et.v,List.map_set]
@[simp] theorem ets_set (t : Bool) (l : List Et) (i : Nat) (x : Et) : (ets t l).set i (x.v t) = ets t (l.set i x) := by simp [ets,List.map_set]
@[simp] theorem ets_take (t : Bool) (n : Nat) (l : List Et) : (ets t l).take n = ets t (l.take n) := by simp [ets,List.map_take]
@[simp] theorem ets_drop (t : Bool) (n : Nat) (l : List Et) : (ets t l).drop n = ets t (l.drop n) := by simp [ets,List.map_drop]
@[simp] theorem Et.cells_v (t : Bool) (x : Et) : (x.v t).cells = 2 := rfl
@[simp] theorem Et.mention (t : Bool) (x : Et) : V.mention (x.v t) = [] := by simp [Et.v,V.mention,V.mentionL,lst_mention]
@[simp] theorem Et.share (t : Bool) (x : Et) : (x.v t).share = x.v false := by simp [Et.v,V.share,V.shareL,lst_share,ints_share]
@[simp] theorem ets_shareL (t : Bool) (l : List Et) : V.shareL (ets t l) = ets false l := by
  induction l with
  | nil => rfl
  | cons x l ih => simp [V.shareL,ih]
@[simp] theorem Et.snap (t : Bool) (x : Et) (q : St) : V.snap q (x.v t) = some (x.v false) := by simp [Et.v,V.snap,V.snapL,mp,ints_share]
@[simp] theorem Et.snapA (t : Bool) (x : Et) (q : St) : V.snapA q (x.v t) = some (x.v false) := Et.snap t x q
@[simp] theorem Et.snapP (t : Bool) (x : Et) (q : St) : V.snapP q (x.v t) = some (x.v false) := Et.snap t x q
@[simp] theorem Et.accM (t : Bool) (x : Et) : V.accM (x.v t) = [] := by simp [Et.v,V.accM,V.accML]
@[simp] theorem Et.accF (t : Bool) (x : Et) : V.accF (x.v t) = [] := by simp [Et.v,V.accF,V.accFL]
@[simp] theorem Et.ren (t : Bool) (x : Et) (ρ : Nat → Option Nat) (vr : Nat → Nat) : V.ren ρ vr (x.v t) = x.v t := by simp [Et.v,V.ren,V.renL]
@[simp] theorem Et.bA (i : Nat) (t : Bool) (x : Et) (r : List V) : bindArgs i (x.v t :: r) = ((i,x.v t) :: (bindArgs (i + 1) r).1,(bindArgs (i + 1) r).2) := rfl
@[simp] theorem Et.lodF (x : Et) (o i ver : Nat) (fs : List Nat) : V.lod o i ver fs (x.v false) = x.v false := by simp [Et.v,V.lod,V.lodL]
@[simp] theorem Et.fzF (x : Et) (s : St) : V.fz (x.v false) s = some (x.v false,s) := by simp [Et.v,V.fz,V.fzL,mp]
@[simp] theorem Et.fzI (t : Bool) (x : Et) (s : St) : V.fzI (x.v t) s = some (x.v t,s) := by cases t <;> simp [Et.v,V.fz,V.fzI,V.fzIL,mp]
@[simp] theorem Et.scal (t : Bool) (x : Et) : V.scal (x.v t) = false := by simp [Et.v,V.scal,V.scalL]
@[simp] theorem Et.isTup (t : Bool) (x : Et) : (x.v t).isTup = false := rfl
@[simp] theorem Et.tidyT (x : Et) : V.tidy (x.v true) = true := by simp [Et.v,V.tidy,V.tidyL,ints_tidy]
@[simp] theorem ets_tidyT (l : List Et) : V.tidyL (ets true l) = true := by
  induction l with
  | nil => rfl
  | cons x l ih => simp [V.tidyL,ih]
@[simp] theorem Et.thawF (x : Et) (id : Nat) : V.thaw id (x.v false) = (x.v false,[],id) := by simp [Et.v,V.thaw,V.thawL]
@[simp] theorem Et.thawT (x : Et) (id : Nat) : V.thaw id (x.v true) = (.agg [.ref (id) 0 x.row.length,.int .i64 x.w],[(id,⟨false,false,1,ints x.row,0⟩)],id + 1) := by simp [Et.v,V.thaw,V.thawL]
structure Fr where
  kind : Int
  node : Int
  side : Int
  ep : Int
  set : List Et
  news : List Ct
  deriving DecidableEq
theorem Fr.eq_iff {d g : Fr} : d = g ↔ d.kind = g.kind ∧ d.node = g.node ∧ d.side = g.side ∧ d.ep = g.ep ∧ d.set = g.set ∧ d.news = g.news := by
  cases d;cases g;simp
def Fr.v (t : Bool) (x : Fr) : V := .agg [.int .i64 x.kind,.int .i64 x.node,.int .i64 x.side,.int .i64 x.ep,.lst t (lz t 2) (ets t x.set),.lst t (lz t 3) (cts x.news)]
def frs (t : Bool) (l : List Fr) : List V := l.map (Fr.v t)
@[simp] theorem frs_len (t : Bool) (l : List Fr) : (frs t l).length = l.length := by simp [frs]
@[simp] theorem frs_nil (t : Bool) : frs t [] = [] := rfl
@[simp] theorem frs_cons (t : Bool) (x : Fr) (l : List Fr) : frs t (x :: l) = x.v t :: frs t l := rfl
@[simp] theorem frs_join (t : Bool) (l m : List Fr) : frs t l ++ frs t m = frs t (l ++ m) := by simp [frs]
@[simp] theorem frs_snoc (t : Bool) (l : List Fr) (x : Fr) : frs t l ++ [x.v t] = frs t (l ++ [x]) := by simp [frs]
@[simp] theorem frs_snocT2 (l : List Fr) (a : Int) (b : Int) (c : Int) (d : Int) (e : List Et) (f : List Ct) : frs true l ++ [V.agg [.int .i64 a,.int .i64 b,.int .i64 c,.int .i64 d,.lst true 2 (ets true e),.lst true 3 (cts f)]] = frs true (l ++ [⟨a,b,c,d,e,f⟩]) := by simp [frs,Fr.v]
@[simp] theorem frs_setT2 (l : List Fr) (j : Nat) (a : Int) (b : Int) (c : Int) (d : Int) (e : List Et) (f : List Ct) : (frs true l).set j (V.agg [.int .i64 a,.int .i64 b,.int .i64 c,.int .i64 d,.lst true 2 (ets true e),.lst true 3 (cts f)]) = frs true (l.set j ⟨a,b,c,d,e,f⟩) := by simp [frs,Fr.v,List.map_set]
@[simp] theorem frs_snocF2 (l : List Fr) (a : Int) (b : Int) (c : Int) (d : Int) (e : List Et) (f : List Ct) : frs false l ++ [V.agg [.int .i64 a,.int .i64 b,.int .i64 c,.int .i64 d,.lst false 0 (ets false e),.lst false 0 (cts f)]] = frs false (l ++ [⟨a,b,c,d,e,f⟩]) := by simp [frs,Fr.v]
@[simp] theorem frs_setF2 (l : List Fr) (j : Nat) (a : Int) (b : Int) (c : Int) (d : Int) (e : List Et) (f : List Ct) : (frs false l).set j (V.agg [.int .i64 a,.int .i64 b,.int .i64 c,.int .i64 d,.lst false 0 (ets false e),.lst false 0 (cts f)]) = frs false (l.set j ⟨a,b,c,d,e,f⟩) := by simp [frs,Fr.v,List.map_set]
@[simp] theorem frs_set (t : Bool) (l : List Fr) (i : Nat) (x : Fr) : (frs t l).set i (x.v t) = frs t (l.set i x) := by simp [frs,List.map_set]
@[simp] theorem frs_take (t : Bool) (n : Nat) (l : List Fr) : (frs t l).take n = frs t (l.take n) := by simp [frs,List.map_take]
@[simp] theorem frs_drop (t : Bool) (n : Nat) (l : List Fr) : (frs t l).drop n = frs t (l.drop n) := by simp [frs,List.map_drop]
@[simp] theorem Fr.cells_v (t : Bool) (x : Fr) : (x.v t).cells = 6 := rfl
@[simp] theorem Fr.mention (t : Bool) (x : Fr) : V.mention (x.v t) = [] := by simp [Fr.v,V.mention,V.mentionL,lst_mention]
@[simp] theorem Fr.share (t : Bool) (x : Fr) : (x.v t).share = x.v false := by simp [Fr.v,V.share,V.shareL,lst_share,ets_shareL,cts_shareL]
@[simp] theorem frs_shareL (t : Bool) (l : List Fr) : V.shareL (frs t l) = frs false l := by
  induction l with
  | nil => rfl
  | cons x l ih => simp [V.shareL,ih]
@[simp] theorem Fr.snap (t : Bool) (x : Fr) (q : St) : V.snap q (x.v t) = some (x.v false) := by simp [Fr.v,V.snap,V.snapL,mp,ets_shareL,cts_shareL]
@[simp] theorem Fr.snapA (t : Bool) (x : Fr) (q : St) : V.snapA q (x.v t) = some (x.v false) := Fr.snap t x q
@[simp] theorem Fr.snapP (t : Bool) (x : Fr) (q : St) : V.snapP q (x.v t) = some (x.v false) := Fr.snap t x q
@[simp] theorem Fr.accM (t : Bool) (x : Fr) : V.accM (x.v t) = [] := by simp [Fr.v,V.accM,V.accML]
@[simp] theorem Fr.accF (t : Bool) (x : Fr) : V.accF (x.v t) = [] := by simp [Fr.v,V.accF,V.accFL]
@[simp] theorem Fr.ren (t : Bool) (x : Fr) (ρ : Nat → Option Nat) (vr : Nat → Nat) : V.ren ρ vr (x.v t) = x.v t := by simp [Fr.v,V.ren,V.renL]
@[simp] theorem Fr.bA (i : Nat) (t : Bool) (x : Fr) (r : List V) : bindArgs i (x.v t :: r) = ((i,x.v t) :: (bindArgs (i + 1) r).1,(bindArgs (i + 1) r).2) := rfl
@[simp] theorem Fr.lodF (x : Fr) (o i ver : Nat) (fs : List Nat) : V.lod o i ver fs (x.v false) = x.v false := by simp [Fr.v,V.lod,V.lodL]
@[simp] theorem Fr.fzF (x : Fr) (s : St) : V.fz (x.v false) s = some (x.v false,s) := by simp [Fr.v,V.fz,V.fzL,mp]
@[simp] theorem Fr.fzI (t : Bool) (x : Fr) (s : St) : V.fzI (x.v t) s = some (x.v t,s) := by cases t <;> simp [Fr.v,V.fz,V.fzI,V.fzIL,mp]
@[simp] theorem Fr.scal (t : Bool) (x : Fr) : V.scal (x.v t) = false := by simp [Fr.v,V.scal,V.scalL]
@[simp] theorem Fr.isTup (t : Bool) (x : Fr) : (x.v t).isTup = false := rfl
@[simp] theorem Fr.tidyT (x : Fr) : V.tidy (x.v true) = true := by simp [Fr.v,V.tidy,V.tidyL,ets_tidyT,cts_tidyT]
@[simp] theorem frs_tidyT (l : List Fr) : V.tidyL (frs true l) = true := by
  induction l with
  | nil => rfl
  | cons x l ih => simp [V.tidyL,ih]
@[simp] theorem Fr.thawF (x : Fr) (id : Nat) : V.thaw id (x.v false) = (x.v false,[],id) := by simp [Fr.v,V.thaw,V.thawL]
@[simp] theorem Fr.thawT (x : Fr) (id : Nat) : V.thaw id (x.v true) = (.agg [.int .i64 x.kind,.int .i64 x.node,.int .i64 x.side,.int .i64 x.ep,.ref (id) 0 x.set.length,.ref (id + 1) 0 x.news.length],[(id,⟨false,false,2,ets true x.set,0⟩),(id + 1,⟨false,false,3,cts x.news,0⟩)],id + 1 + 1) := by simp [Fr.v,V.thaw,V.thawL]
structure Bt where
  side : Int
  ep : Int
  set : List Et
  deriving DecidableEq
theorem Bt.eq_iff {d g : Bt} : d = g ↔ d.side = g.side ∧ d.ep = g.ep ∧ d.set = g.set := by
  cases d;cases g;simp
def Bt.v (t : Bool) (x : Bt) : V := .agg [.int .i64 x.side,.int .i64 x.ep,.lst t (lz t 2) (ets t x.set)]
def bts (t : Bool) (l : List Bt) : List V := l.map (Bt.v t)
@[simp] theorem bts_len (t : Bool) (l : List Bt) : (bts t l).length = l.length := by simp [bts]
@[simp] theorem bts_nil (t : Bool) : bts t [] = [] := rfl
@[simp] theorem bts_cons (t : Bool) (x : Bt) (l : List Bt) : bts t (x :: l) = x.v t :: bts t l := rfl
@[simp] theorem bts_join (t : Bool) (l m : List Bt) : bts t l ++ bts t m = bts t (l ++ m) := by simp [bts]
@[simp] theorem bts_snoc (t : Bool) (l : List Bt) (x : Bt) : bts t l ++ [x.v t] = bts t (l ++ [x]) := by simp [bts]
@[simp] theorem bts_snocT2 (l : List Bt) (a : Int) (b : Int) (c : List Et) : bts true l ++ [V.agg [.int .i64 a,.int .i64 b,.lst true 2 (ets true c)]] = bts true (l ++ [⟨a,b,c⟩]) := by simp [bts,Bt.v]
@[simp] theorem bts_setT2 (l : List Bt) (j : Nat) (a : Int) (b : Int) (c : List Et) : (bts true l).set j (V.agg [.int .i64 a,.int .i64 b,.lst true 2 (ets true c)]) = bts true (l.set j ⟨a,b,c⟩) := by simp [bts,Bt.v,List.map_set]
@[simp] theorem bts_snocF2 (l : List Bt) (a : Int) (b : Int) (c : List Et) : bts false l ++ [V.agg [.int .i64 a,.int .i64 b,.lst false 0 (ets false c)]] = bts false (l ++ [⟨a,b,c⟩]) := by simp [bts,Bt.v]
@[simp] theorem bts_setF2 (l : List Bt) (j : Nat) (a : Int) (b : Int) (c : List Et) : (bts false l).set j (V.agg [.int .i64 a,.int .i64 b,.lst false 0 (ets false c)]) = bts false (l.set j ⟨a,b,c⟩) := by simp [bts,Bt.v,List.map_set]
@[simp] theorem bts_set (t : Bool) (l : List Bt) (i : Nat) (x : Bt) : (bts t l).set i (x.v t) = bts t (l.set i x) := by simp [bts,List.map_set]
@[simp] theorem bts_take (t : Bool) (n : Nat) (l : List Bt) : (bts t l).take n = bts t (l.take n) := by simp [bts,List.map_take]
@[simp] theorem bts_drop (t : Bool) (n : Nat) (l : List Bt) : (bts t l).drop n = bts t (l.drop n) := by simp [bts,List.map_drop]
@[simp] theorem Bt.cells_v (t : Bool) (x : Bt) : (x.v t).cells = 3 := rfl
@[simp] theorem Bt.mention (t : Bool) (x : Bt) : V.mention (x.v t) = [] := by simp [Bt.v,V.mention,V.mentionL,lst_mention]
@[simp] theorem Bt.share (t : Bool) (x : Bt) : (x.v t).share = x.v false := by simp [Bt.v,V.share,V.shareL,lst_share,ets_shareL]
@[simp] theorem bts_shareL (t : Bool) (l : List Bt) : V.shareL (bts t l) = bts false l := by
  induction l with
  | nil => rfl
  | cons x l ih => simp [V.shareL,ih]
@[simp] theorem Bt.snap (t : Bool) (x : Bt) (q : St) : V.snap q (x.v t) = some (x.v false) := by simp [Bt.v,V.snap,V.snapL,mp,ets_shareL]
@[simp] theorem Bt.snapA (t : Bool) (x : Bt) (q : St) : V.snapA q (x.v t) = some (x.v false) := Bt.snap t x q
@[simp] theorem Bt.snapP (t : Bool) (x : Bt) (q : St) : V.snapP q (x.v t) = some (x.v false) := Bt.snap t x q
@[simp] theorem Bt.accM (t : Bool) (x : Bt) : V.accM (x.v t) = [] := by simp [Bt.v,V.accM,V.accML]
@[simp] theorem Bt.accF (t : Bool) (x : Bt) : V.accF (x.v t) = [] := by simp [Bt.v,V.accF,V.accFL]
@[simp] theorem Bt.ren (t : Bool) (x : Bt) (ρ : Nat → Option Nat) (vr : Nat → Nat) : V.ren ρ vr (x.v t) = x.v t := by simp [Bt.v,V.ren,V.renL]
@[simp] theorem Bt.bA (i : Nat) (t : Bool) (x : Bt) (r : List V) : bindArgs i (x.v t :: r) = ((i,x.v t) :: (bindArgs (i + 1) r).1,(bindArgs (i + 1) r).2) := rfl
@[simp] theorem Bt.lodF (x : Bt) (o i ver : Nat) (fs : List Nat) : V.lod o i ver fs (x.v false) = x.v false := by simp [Bt.v,V.lod,V.lodL]
@[simp] theorem Bt.fzF (x : Bt) (s : St) : V.fz (x.v false) s = some (x.v false,s) := by simp [Bt.v,V.fz,V.fzL,mp]
@[simp] theorem Bt.fzI (t : Bool) (x : Bt) (s : St) : V.fzI (x.v t) s = some (x.v t,s) := by cases t <;> simp [Bt.v,V.fz,V.fzI,V.fzIL,mp]
@[simp] theorem Bt.scal (t : Bool) (x : Bt) : V.scal (x.v t) = false := by simp [Bt.v,V.scal,V.scalL]
@[simp] theorem Bt.isTup (t : Bool) (x : Bt) : (x.v t).isTup = false := rfl
@[simp] theorem Bt.tidyT (x : Bt) : V.tidy (x.v true) = true := by simp [Bt.v,V.tidy,V.tidyL,ets_tidyT]
@[simp] theorem bts_tidyT (l : List Bt) : V.tidyL (bts true l) = true := by
  induction l with
  | nil => rfl
  | cons x l ih => simp [V.tidyL,ih]
@[simp] theorem Bt.thawF (x : Bt) (id : Nat) : V.thaw id (x.v false) = (x.v false,[],id) := by simp [Bt.v,V.thaw,V.thawL]
@[simp] theorem Bt.thawT (x : Bt) (id : Nat) : V.thaw id (x.v true) = (.agg [.int .i64 x.side,.int .i64 x.ep,.ref (id) 0 x.set.length],[(id,⟨false,false,2,ets true x.set,0⟩)],id + 1) := by simp [Bt.v,V.thaw,V.thawL]
structure Hd where
  oldA : List Et
  oldB : List Et
  waits : List Bt
  told : Int
  deriving DecidableEq
theorem Hd.eq_iff {d g : Hd} : d = g ↔ d.oldA = g.oldA ∧ d.oldB = g.oldB ∧ d.waits = g.waits ∧ d.told = g.told := by
  cases d;cases g;simp
def Hd.v (t : Bool) (x : Hd) : V := .agg [.lst t (lz t 2) (ets t x.oldA),.lst t (lz t 2) (ets t x.oldB),.lst t (lz t 3) (bts t x.waits),.int .i64 x.told]
def hds (t : Bool) (l : List Hd) : List V := l.map (Hd.v t)
@[simp] theorem hds_len (t : Bool) (l : List Hd) : (hds t l).length = l.length := by simp [hds]
@[simp] theorem hds_nil (t : Bool) : hds t [] = [] := rfl
@[simp] theorem hds_cons (t : Bool) (x : Hd) (l : List Hd) : hds t (x :: l) = x.v t :: hds t l := rfl
@[simp] theorem hds_join (t : Bool) (l m : List Hd) : hds t l ++ hds t m = hds t (l ++ m) := by simp [hds]
@[simp] theorem hds_snoc (t : Bool) (l : List Hd) (x : Hd) : hds t l ++ [x.v t] = hds t (l ++ [x]) := by simp [hds]
@[simp] theorem hds_snocT2 (l : List Hd) (a : List Et) (b : List Et) (c : List Bt) (d : Int) : hds true l ++ [V.agg [.lst true 2 (ets true a),.lst true 2 (ets true b),.lst true 3 (bts true c),.int .i64 d]] = hds true (l ++ [⟨a,b,c,d⟩]) := by simp [hds,Hd.v]
@[simp] theorem hds_setT2 (l : List Hd) (j : Nat) (a : List Et) (b : List Et) (c : List Bt) (d : Int) : (hds true l).set j (V.agg [.lst true 2 (ets true a),.lst true 2 (ets true b),.lst true 3 (bts true c),.int .i64 d]) = hds true (l.set j ⟨a,b,c,d⟩) := by simp [hds,Hd.v,List.map_set]
@[simp] theorem hds_snocF2 (l : List Hd) (a : List Et) (b : List Et) (c : List Bt) (d : Int) : hds false l ++ [V.agg [.lst false 0 (ets false a),.lst false 0 (ets false b),.lst false 0 (bts false c),.int .i64 d]] = hds false (l ++ [⟨a,b,c,d⟩]) := by simp [hds,Hd.v]
@[simp] theorem hds_setF2 (l : List Hd) (j : Nat) (a : List Et) (b : List Et) (c : List Bt) (d : Int) : (hds false l).set j (V.agg [.lst false 0 (ets false a),.lst false 0 (ets false b),.lst false 0 (bts false c),.int .i64 d]) = hds false (l.set j ⟨a,b,c,d⟩) := by simp [hds,Hd.v,List.map_set]
@[simp] theorem hds_set (t : Bool) (l : List Hd) (i : Nat) (x : Hd) : (hds t l).set i (x.v t) = hds t (l.set i x) := by simp [hds,List.map_set]
@[simp] theorem hds_take (t : Bool) (n : Nat) (l : List Hd) : (hds t l).take n = hds t (l.take n) := by simp [hds,List.map_take]
@[simp] theorem hds_drop (t : Bool) (n : Nat) (l : List Hd) : (hds t l).drop n = hds t (l.drop n) := by simp [hds,List.map_drop]
@[simp] theorem Hd.cells_v (t : Bool) (x : Hd) : (x.v t).cells = 4 := rfl
@[simp] theorem Hd.mention (t : Bool) (x : Hd) : V.mention (x.v t) = [] := by simp [Hd.v,V.mention,V.mentionL,lst_mention]
@[simp] theorem Hd.share (t : Bool) (x : Hd) : (x.v t).share = x.v false := by simp [Hd.v,V.share,V.shareL,lst_share,ets_shareL,ets_shareL,bts_shareL]
@[simp] theorem hds_shareL (t : Bool) (l : List Hd) : V.shareL (hds t l) = hds false l := by
  induction l with
  | nil => rfl
  | cons x l ih => simp [V.shareL,ih]
@[simp] theorem Hd.snap (t : Bool) (x : Hd) (q : St) : V.snap q (x.v t) = some (x.v false) := by simp [Hd.v,V.snap,V.snapL,mp,ets_shareL,ets_shareL,bts_shareL]
@[simp] theorem Hd.snapA (t : Bool) (x : Hd) (q : St) : V.snapA q (x.v t) = some (x.v false) := Hd.snap t x q
@[simp] theorem Hd.snapP (t : Bool) (x : Hd) (q : St) : V.snapP q (x.v t) = some (x.v false) := Hd.snap t x q
@[simp] theorem Hd.accM (t : Bool) (x : Hd) : V.accM (x.v t) = [] := by simp [Hd.v,V.accM,V.accML]
@[simp] theorem Hd.accF (t : Bool) (x : Hd) : V.accF (x.v t) = [] := by simp [Hd.v,V.accF,V.accFL]
@[simp] theorem Hd.ren (t : Bool) (x : Hd) (ρ : Nat → Option Nat) (vr : Nat → Nat) : V.ren ρ vr (x.v t) = x.v t := by simp [Hd.v,V.ren,V.renL]
@[simp] theorem Hd.bA (i : Nat) (t : Bool) (x : Hd) (r : List V) : bindArgs i (x.v t :: r) = ((i,x.v t) :: (bindArgs (i + 1) r).1,(bindArgs (i + 1) r).2) := rfl
@[simp] theorem Hd.lodF (x : Hd) (o i ver : Nat) (fs : List Nat) : V.lod o i ver fs (x.v false) = x.v false := by simp [Hd.v,V.lod,V.lodL]
@[simp] theorem Hd.fzF (x : Hd) (s : St) : V.fz (x.v false) s = some (x.v false,s) := by simp [Hd.v,V.fz,V.fzL,mp]
@[simp] theorem Hd.fzI (t : Bool) (x : Hd) (s : St) : V.fzI (x.v t) s = some (x.v t,s) := by cases t <;> simp [Hd.v,V.fz,V.fzI,V.fzIL,mp]
@[simp] theorem Hd.scal (t : Bool) (x : Hd) : V.scal (x.v t) = false := by simp [Hd.v,V.scal,V.scalL]
@[simp] theorem Hd.isTup (t : Bool) (x : Hd) : (x.v t).isTup = false := rfl
@[simp] theorem Hd.tidyT (x : Hd) : V.tidy (x.v true) = true := by simp [Hd.v,V.tidy,V.tidyL,ets_tidyT,ets_tidyT,bts_tidyT]
@[simp] theorem hds_tidyT (l : List Hd) : V.tidyL (hds true l) = true := by
  induction l with
  | nil => rfl
  | cons x l ih => simp [V.tidyL,ih]
@[simp] theorem Hd.thawF (x : Hd) (id : Nat) : V.thaw id (x.v false) = (x.v false,[],id) := by simp [Hd.v,V.thaw,V.thawL]
@[simp] theorem Hd.thawT (x : Hd) (id : Nat) : V.thaw id (x.v true) = (.agg [.ref (id) 0 x.oldA.length,.ref (id + 1) 0 x.oldB.length,.ref (id + 1 + 1) 0 x.waits.length,.int .i64 x.told],[(id,⟨false,false,2,ets true x.oldA,0⟩),(id + 1,⟨false,false,2,ets true x.oldB,0⟩),(id + 1 + 1,⟨false,false,3,bts true x.waits,0⟩)],id + 1 + 1 + 1) := by simp [Hd.v,V.thaw,V.thawL]
structure Rl where
  node : Int
  ep : Int
  set : List Et
  deriving DecidableEq
theorem Rl.eq_iff {d g : Rl} : d = g ↔ d.node = g.node ∧ d.ep = g.ep ∧ d.set = g.set := by
  cases d;cases g;simp
def Rl.v (t : Bool) (x : Rl) : V := .agg [.int .i64 x.node,.int .i64 x.ep,.lst t (lz t 2) (ets t x.set)]
def rls (t : Bool) (l : List Rl) : List V := l.map (Rl.v t)
@[simp] theorem rls_len (t : Bool) (l : List Rl) : (rls t l).length = l.length := by simp [rls]
@[simp] theorem rls_nil (t : Bool) : rls t [] = [] := rfl
@[simp] theorem rls_cons (t : Bool) (x : Rl) (l : List Rl) : rls t (x :: l) = x.v t :: rls t l := rfl
@[simp] theorem rls_join (t : Bool) (l m : List Rl) : rls t l ++ rls t m = rls t (l ++ m) := by simp [rls]
@[simp] theorem rls_snoc (t : Bool) (l : List Rl) (x : Rl) : rls t l ++ [x.v t] = rls t (l ++ [x]) := by simp [rls]
@[simp] theorem rls_snocT2 (l : List Rl) (a : Int) (b : Int) (c : List Et) : rls true l ++ [V.agg [.int .i64 a,.int .i64 b,.lst true 2 (ets true c)]] = rls true (l ++ [⟨a,b,c⟩]) := by simp [rls,Rl.v]
@[simp] theorem rls_setT2 (l : List Rl) (j : Nat) (a : Int) (b : Int) (c : List Et) : (rls true l).set j (V.agg [.int .i64 a,.int .i64 b,.lst true 2 (ets true c)]) = rls true (l.set j ⟨a,b,c⟩) := by simp [rls,Rl.v,List.map_set]
@[simp] theorem rls_snocF2 (l : List Rl) (a : Int) (b : Int) (c : List Et) : rls false l ++ [V.agg [.int .i64 a,.int .i64 b,.lst false 0 (ets false c)]] = rls false (l ++ [⟨a,b,c⟩]) := by simp [rls,Rl.v]
@[simp] theorem rls_setF2 (l : List Rl) (j : Nat) (a : Int) (b : Int) (c : List Et) : (rls false l).set j (V.agg [.int .i64 a,.int .i64 b,.lst false 0 (ets false c)]) = rls false (l.set j ⟨a,b,c⟩) := by simp [rls,Rl.v,List.map_set]
@[simp] theorem rls_set (t : Bool) (l : List Rl) (i : Nat) (x : Rl) : (rls t l).set i (x.v t) = rls t (l.set i x) := by simp [rls,List.map_set]
@[simp] theorem rls_take (t : Bool) (n : Nat) (l : List Rl) : (rls t l).take n = rls t (l.take n) := by simp [rls,List.map_take]
@[simp] theorem rls_drop (t : Bool) (n : Nat) (l : List Rl) : (rls t l).drop n = rls t (l.drop n) := by simp [rls,List.map_drop]
@[simp] theorem Rl.cells_v (t : Bool) (x : Rl) : (x.v t).cells = 3 := rfl
@[simp] theorem Rl.mention (t : Bool) (x : Rl) : V.mention (x.v t) = [] := by simp [Rl.v,V.mention,V.mentionL,lst_mention]
@[simp] theorem Rl.share (t : Bool) (x : Rl) : (x.v t).share = x.v false := by simp [Rl.v,V.share,V.shareL,lst_share,ets_shareL]
@[simp] theorem rls_shareL (t : Bool) (l : List Rl) : V.shareL (rls t l) = rls false l := by
  induction l with
  | nil => rfl
  | cons x l ih => simp [V.shareL,ih]
@[simp] theorem Rl.snap (t : Bool) (x : Rl) (q : St) : V.snap q (x.v t) = some (x.v false) := by simp [Rl.v,V.snap,V.snapL,mp,ets_shareL]
@[simp] theorem Rl.snapA (t : Bool) (x : Rl) (q : St) : V.snapA q (x.v t) = some (x.v false) := Rl.snap t x q
@[simp] theorem Rl.snapP (t : Bool) (x : Rl) (q : St) : V.snapP q (x.v t) = some (x.v false) := Rl.snap t x q
@[simp] theorem Rl.accM (t : Bool) (x : Rl) : V.accM (x.v t) = [] := by simp [Rl.v,V.accM,V.accML]
@[simp] theorem Rl.accF (t : Bool) (x : Rl) : V.accF (x.v t) = [] := by simp [Rl.v,V.accF,V.accFL]
@[simp] theorem Rl.ren (t : Bool) (x : Rl) (ρ : Nat → Option Nat) (vr : Nat → Nat) : V.ren ρ vr (x.v t) = x.v t := by simp [Rl.v,V.ren,V.renL]
@[simp] theorem Rl.bA (i : Nat) (t : Bool) (x : Rl) (r : List V) : bindArgs i (x.v t :: r) = ((i,x.v t) :: (bindArgs (i + 1) r).1,(bindArgs (i + 1) r).2) := rfl
@[simp] theorem Rl.lodF (x : Rl) (o i ver : Nat) (fs : List Nat) : V.lod o i ver fs (x.v false) = x.v false := by simp [Rl.v,V.lod,V.lodL]
@[simp] theorem Rl.fzF (x : Rl) (s : St) : V.fz (x.v false) s = some (x.v false,s) := by simp [Rl.v,V.fz,V.fzL,mp]
@[simp] theorem Rl.fzI (t : Bool) (x : Rl) (s : St) : V.fzI (x.v t) s = some (x.v t,s) := by cases t <;> simp [Rl.v,V.fz,V.fzI,V.fzIL,mp]
@[simp] theorem Rl.scal (t : Bool) (x : Rl) : V.scal (x.v t) = false := by simp [Rl.v,V.scal,V.scalL]
@[simp] theorem Rl.isTup (t : Bool) (x : Rl) : (x.v t).isTup = false := rfl
@[simp] theorem Rl.tidyT (x : Rl) : V.tidy (x.v true) = true := by simp [Rl.v,V.tidy,V.tidyL,ets_tidyT]
@[simp] theorem rls_tidyT (l : List Rl) : V.tidyL (rls true l) = true := by
  induction l with
  | nil => rfl
  | cons x l ih => simp [V.tidyL,ih]
@[simp] theorem Rl.thawF (x : Rl) (id : Nat) : V.thaw id (x.v false) = (x.v false,[],id) := by simp [Rl.v,V.thaw,V.thawL]
@[simp] theorem Rl.thawT (x : Rl) (id : Nat) : V.thaw id (x.v true) = (.agg [.int .i64 x.node,.int .i64 x.ep,.ref (id) 0 x.set.length],[(id,⟨false,false,2,ets true x.set,0⟩)],id + 1) := by simp [Rl.v,V.thaw,V.thawL]
structure Wk where
  inbox : List Fr
  counts : List Ct
  nodes : List Hd
  ep : Int
  top : Int
  outs : List Rl
  bad : Bool
  deriving DecidableEq
theorem Wk.eq_iff {d g : Wk} : d = g ↔ d.inbox = g.inbox ∧ d.counts = g.counts ∧ d.nodes = g.nodes ∧ d.ep = g.ep ∧ d.top = g.top ∧ d.outs = g.outs ∧ d.bad = g.bad := by
  cases d;cases g;simp
def Wk.v (t : Bool) (x : Wk) : V := .agg [.lst t (lz t 6) (frs t x.inbox),.lst t (lz t 3) (cts x.counts),.lst t (lz t 4) (hds t x.nodes),.int .i64 x.ep,.int .i64 x.top,.lst t (lz t 3) (rls t x.outs),.bool x.bad]
def wks (t : Bool) (l : List Wk) : List V := l.map (Wk.v t)
@[simp] theorem wks_len (t : Bool) (l : List Wk) : (wks t l).length = l.length := by simp [wks]
@[simp] theorem wks_nil (t : Bool) : wks t [] = [] := rfl
@[simp] theorem wks_cons (t : Bool) (x : Wk) (l : List Wk) : wks t (x :: l) = x.v t :: wks t l := rfl
@[simp] theorem wks_join (t : Bool) (l m : List Wk) : wks t l ++ wks t m = wks t (l ++ m) := by simp [wks]
@[simp] theorem wks_snoc (t : Bool) (l : List Wk) (x : Wk) : wks t l ++ [x.v t] = wks t (l ++ [x]) := by simp [wks]
@[simp] theorem wks_snocT2 (l : List Wk) (a : List Fr) (b : List Ct) (c : List Hd) (d : Int) (e : Int) (f : List Rl) (g : Bool) : wks true l ++ [V.agg [.lst true 6 (frs true a),.lst true 3 (cts b),.lst true 4 (hds true c),.int .i64 d,.int .i64 e,.lst true 3 (rls true f),.bool g]] = wks true (l ++ [⟨a,b,c,d,e,f,g⟩]) := by simp [wks,Wk.v]
@[simp] theorem wks_setT2 (l : List Wk) (j : Nat) (a : List Fr) (b : List Ct) (c : List Hd) (d : Int) (e : Int) (f : List Rl) (g : Bool) : (wks true l).set j (V.agg [.lst true 6 (frs true a),.lst true 3 (cts b),.lst true 4 (hds true c),.int .i64 d,.int .i64 e,.lst true 3 (rls true f),.bool g]) = wks true (l.set j ⟨a,b,c,d,e,f,g⟩) := by simp [wks,Wk.v,List.map_set]
@[simp] theorem wks_snocF2 (l : List Wk) (a : List Fr) (b : List Ct) (c : List Hd) (d : Int) (e : Int) (f : List Rl) (g : Bool) : wks false l ++ [V.agg [.lst false 0 (frs false a),.lst false 0 (cts b),.lst false 0 (hds false c),.int .i64 d,.int .i64 e,.lst false 0 (rls false f),.bool g]] = wks false (l ++ [⟨a,b,c,d,e,f,g⟩]) := by simp [wks,Wk.v]
@[simp] theorem wks_setF2 (l : List Wk) (j : Nat) (a : List Fr) (b : List Ct) (c : List Hd) (d : Int) (e : Int) (f : List Rl) (g : Bool) : (wks false l).set j (V.agg [.lst false 0 (frs false a),.lst false 0 (cts b),.lst false 0 (hds false c),.int .i64 d,.int .i64 e,.lst false 0 (rls false f),.bool g]) = wks false (l.set j ⟨a,b,c,d,e,f,g⟩) := by simp [wks,Wk.v,List.map_set]
@[simp] theorem wks_set (t : Bool) (l : List Wk) (i : Nat) (x : Wk) : (wks t l).set i (x.v t) = wks t (l.set i x) := by simp [wks,List.map_set]
@[simp] theorem wks_take (t : Bool) (n : Nat) (l : List Wk) : (wks t l).take n = wks t (l.take n) := by simp [wks,List.map_take]
@[simp] theorem wks_drop (t : Bool) (n : Nat) (l : List Wk) : (wks t l).drop n = wks t (l.drop n) := by simp [wks,List.map_drop]
@[simp] theorem Wk.cells_v (t : Bool) (x : Wk) : (x.v t).cells = 7 := rfl
@[simp] theorem Wk.mention (t : Bool) (x : Wk) : V.mention (x.v t) = [] := by simp [Wk.v,V.mention,V.mentionL,lst_mention]
@[simp] theorem Wk.share (t : Bool) (x : Wk) : (x.v t).share = x.v false := by simp [Wk.v,V.share,V.shareL,lst_share,frs_shareL,cts_shareL,hds_shareL,rls_shareL]
@[simp] theorem wks_shareL (t : Bool) (l : List Wk) : V.shareL (wks t l) = wks false l := by
  induction l with
  | nil => rfl
  | cons x l ih => simp [V.shareL,ih]
@[simp] theorem Wk.snap (t : Bool) (x : Wk) (q : St) : V.snap q (x.v t) = some (x.v false) := by simp [Wk.v,V.snap,V.snapL,mp,frs_shareL,cts_shareL,hds_shareL,rls_shareL]
@[simp] theorem Wk.snapA (t : Bool) (x : Wk) (q : St) : V.snapA q (x.v t) = some (x.v false) := Wk.snap t x q
@[simp] theorem Wk.snapP (t : Bool) (x : Wk) (q : St) : V.snapP q (x.v t) = some (x.v false) := Wk.snap t x q
@[simp] theorem Wk.accM (t : Bool) (x : Wk) : V.accM (x.v t) = [] := by simp [Wk.v,V.accM,V.accML]
@[simp] theorem Wk.accF (t : Bool) (x : Wk) : V.accF (x.v t) = [] := by simp [Wk.v,V.accF,V.accFL]
@[simp] theorem Wk.ren (t : Bool) (x : Wk) (ρ : Nat → Option Nat) (vr : Nat → Nat) : V.ren ρ vr (x.v t) = x.v t := by simp [Wk.v,V.ren,V.renL]
@[simp] theorem Wk.bA (i : Nat) (t : Bool) (x : Wk) (r : List V) : bindArgs i (x.v t :: r) = ((i,x.v t) :: (bindArgs (i + 1) r).1,(bindArgs (i + 1) r).2) := rfl
@[simp] theorem Wk.lodF (x : Wk) (o i ver : Nat) (fs : List Nat) : V.lod o i ver fs (x.v false) = x.v false := by simp [Wk.v,V.lod,V.lodL]
@[simp] theorem Wk.fzF (x : Wk) (s : St) : V.fz (x.v false) s = some (x.v false,s) := by simp [Wk.v,V.fz,V.fzL,mp]
@[simp] theorem Wk.fzI (t : Bool) (x : Wk) (s : St) : V.fzI (x.v t) s = some (x.v t,s) := by cases t <;> simp [Wk.v,V.fz,V.fzI,V.fzIL,mp]
@[simp] theorem Wk.scal (t : Bool) (x : Wk) : V.scal (x.v t) = false := by simp [Wk.v,V.scal,V.scalL]
@[simp] theorem Wk.isTup (t : Bool) (x : Wk) : (x.v t).isTup = false := rfl
@[simp] theorem Wk.tidyT (x : Wk) : V.tidy (x.v true) = true := by simp [Wk.v,V.tidy,V.tidyL,frs_tidyT,cts_tidyT,hds_tidyT,rls_tidyT]
@[simp] theorem wks_tidyT (l : List Wk) : V.tidyL (wks true l) = true := by
  induction l with
  | nil => rfl
  | cons x l ih => simp [V.tidyL,ih]
@[simp] theorem Wk.thawF (x : Wk) (id : Nat) : V.thaw id (x.v false) = (x.v false,[],id) := by simp [Wk.v,V.thaw,V.thawL]
@[simp] theorem Wk.thawT (x : Wk) (id : Nat) : V.thaw id (x.v true) = (.agg [.ref (id) 0 x.inbox.length,.ref (id + 1) 0 x.counts.length,.ref (id + 1 + 1) 0 x.nodes.length,.int .i64 x.ep,.int .i64 x.top,.ref (id + 1 + 1 + 1) 0 x.outs.length,.bool x.bad],[(id,⟨false,false,6,frs true x.inbox,0⟩),(id + 1,⟨false,false,3,cts x.counts,0⟩),(id + 1 + 1,⟨false,false,4,hds true x.nodes,0⟩),(id + 1 + 1 + 1,⟨false,false,3,rls true x.outs,0⟩)],id + 1 + 1 + 1 + 1) := by simp [Wk.v,V.thaw,V.thawL]
def wS {α : Type} (f : α → Nat) (l : List α) : Nat := (l.map f).sum
@[simp] theorem wS_nil {α : Type} (f : α → Nat) : wS f [] = 0 := rfl
@[simp] theorem wS_cons {α : Type} (f : α → Nat) (x : α) (l : List α) : wS f (x :: l) = f x + wS f l := by simp [wS]
theorem szI_pos {n : Nat} {a : Int} (h : 0 ≤ szI n a) : szI n a = a - n ∧ (n : Int) ≤ a := by
  unfold szI at *;split at h <;> simp_all <;> omega
theorem sz_Cts (l : List Ct) (a : Int) (hb : l.length ≤ 140737488351232) (ha : 0 ≤ a) (hc : a < 2000000) : oc.call 56 [.lst false 0 (cts l),.int .i64 a] = some (.int .i64 (szI l.length a),[]) := by
 refine fun_s rfl cd56 rfl rfl rfl (by simp;rfl) (by simp;rfl) ?_
 have hw : IntKind.i64.wrap (a - l.length) = a - l.length := wrap_id (by omega) (by omega)
 refine wa_ (wc_region (w_ (a_ (h:=wo_nil (e_ (h:=aft_normal (wa_ (wc_region (w_ (m_ (h:=w_ (m_ (h:=w_ (le (h:=w_ (b_ (h:=w_ (a_ (h:=?_)))))))))))))))))))
 refine wo_nil (e_ (h:=aft_normal (wa_ (wa_ (wc_region (w_ (m_ (h:=w_ (b_ (h:=wo_nil (e_ (h:=aft_normal (?_)))))))))))))
 refine c_ (h1:=?_) (h2:=?_)
 rotate_right 1
 focus
  intro c1
  refine wc_skip (?_)
 rotate_right 1
 focus
  intro c1
  refine wa_ (wc_region (w_ (a_ (h:=wo_nil (e_ (h:=aft_normal (wc_ret (?_))))))))
 all_goals first
 | refine aft_ret ?_
 | (
  refine aft_normal ?_
  refine wa_ (wc_region (w_ (m_ (h:=w_ (a_ (h:=wo_nil (e_ (h:=aft_normal (wc_ret (?_))))))))))
  )
 all_goals (refine fin_ (hr:=(res_tmp rfl res_nil)) (h:=?_);(focus (simp [szI,hw] at *;grind)))
theorem to_Ct (x : Ct) : oc.call 133 [x.v] = some (x.v,[]) := by
 refine fun_s rfl cd133 rfl rfl rfl (by simp;rfl) (by simp;rfl) ?_
 refine wa_ (wc_region (w_ (bx (h:=w_ (al (h:=wo_nil (e_ (h:=aft_normal (wa_ (wc_region (w_ (al (h:=wo_nil (e_ (h:=aft_normal (wa_ (?_)))))))))))))))))
 refine wc_region (w_ (f_ (h:=w_ (l_ (h:=w_ (f_ (h:=w0 (s_ (h:=wo_nil (e_ (h:=aft_normal (wa_ (wc_region (w_ (f_ (h:=w_ (l_ (h:=w_ (f_ (h:=?_))))))))))))))))))))
 refine w0 (s_ (h:=wo_nil (e_ (h:=aft_normal (wa_ (wc_region (w_ (f_ (h:=w_ (l_ (h:=w_ (f_ (h:=w0 (s_ (h:=wo_nil (e_ (h:=aft_normal (wa_ (?_)))))))))))))))))))
 refine wc_region (w_ (l_ (h:=w0 (s_ (h:=wo_nil (e_ (h:=aft_normal (wc_ret (?_)))))))))
 all_goals (refine fin_ (hr:=(res_cell (tys_ok.zero _ _ rfl) rfl (by simp;rfl) (by rfl) res_nil)) (h:=?_);(focus (simp [Ct.v])))
theorem l_to_Cts (l : List Ct) (h : l.length < 2000000) : ∀ x : Nat × (List Ct),(x.1 ≤ l.length ∧ x.2.length = l.length ∧ x.2.take x.1 = l.take x.1) → ∀ s,normE 1 (some [0,3,4]) s = ⟨[(0,.lst false 0 (cts l)),(3,.ref 1 0 l.length),(4,.int .i64 x.1)],[(1,⟨false,false,3,cts x.2,0⟩)],2⟩ →
 oc.loop 57 3 s = some (.exit 0,⟨[(3,.ref 1 0 l.length)],[(1,⟨false,false,3,cts l,0⟩)],2⟩) := by
 refine loop_ind (σ:=Nat × (List Ct)) (fun x => l.length - x.1) _ (fun x => ⟨[(0,.lst false 0 (cts l)),(3,.ref 1 0 l.length),(4,.int .i64 x.1)],[(1,⟨false,false,3,cts x.2,0⟩)],2⟩) _ ?_
 rintro ⟨i,r⟩ hi ih s hs
 simp only at hi
 refine loop_s cd57 rfl rfl hs ?_
 obtain ⟨hi1,hi2,hi3⟩ := hi
 refine wa_ (wa_ (wc_region (w_ (m_ (h:=w_ (m_ (h:=w_ (le (h:=w_ (b_ (h:=wo_nil (e_ (h:=aft_normal (?_))))))))))))))
 refine c_ (h1:=?_) (h2:=?_)
 rotate_right 1
 focus
  intro c1
  simp at c1;have : i = l.length := (by omega);subst this;rw [← hi2] at hi3;simp at hi3;rw [hi2] at hi3;simp at hi3;subst hi3
  refine wc_exit (?_)
 rotate_right 1
 focus
  intro c1
  simp at c1;have hw := wrap_succ (i:=i) (by omega);obtain ⟨d,hx,d1,g1⟩ := cts_cut c1;obtain ⟨y,hy,_,g2⟩ := cts_cut (l:=r) (i:=i) (by omega);simp at g2
  refine wc_skip (?_)
 all_goals first
 | refine aft_exit ?_
 | (
  refine aft_normal ?_
  refine wa_ (wc_block (wc_region (w_ (m_ (h:=w_ (m_ (h:=w_ (m_ (h:=w_ (m_ (h:=w_ (x_ (h:=w_ (l_ (h:=w_ (ca (hc:=to_Ct d) (h:=w_ (x_ (h:=w0 (s_ (h:=?_)))))))))))))))))))))
  refine wo_nil (e_ (h:=blk_normal (aft_normal (wc_region (w_ (m_ (h:=w_ (b_ (h:=w_ (a_ (h:=wo_nil (e_ (h:=?_)))))))))))))
  )
 all_goals first
 | (refine (ih ((i + 1,r.set i d)) (⟨by simp;omega,by simpa using hi2,set_take hi3 hi2 hx⟩) ?_ _ ?_).trans ?_;(focus (first | omega | (simp;done) | (simp;omega)));(focus (simp [normE,hw];done));(focus (rfl)))
 | (apply end_leaf (ex:=(Ext.exit 0)) 1 (some [3]);(focus (simp [normE];rfl));(focus (simp)))
theorem to_Cts (l : List Ct) (h : l.length < 2000000) : oc.call 57 [.lst false 0 (cts l)] = some (.lst true 3 (cts l),[]) := by
 refine fun_s rfl cd57 rfl rfl rfl (by simp;rfl) (by simp;rfl) ?_
 refine wa_ (wc_region (w_ (aN (h:=wo_nil (e_ (h:=aft_normal (wa_ (wc_region (w_ (m_ (h:=w_ (le (h:=w_ (mk (h:=w_ (a_ (h:=wo_nil (e_ (h:=?_)))))))))))))))))))
 refine aft_normal (wa_ (wa_ (wc_region (w_ (a_ (h:=wo_nil (e_ (h:=aft_normal (wc_block (?_))))))))))
 refine wc_loop (l_to_Cts l h (0,List.replicate l.length ⟨0,0,0⟩) (by simp) _ (by simp [normE,cts_zero])) ?_
 refine blk_exit (aft_normal (wa_ (wc_region (w_ (m_ (h:=w_ (a_ (h:=wo_nil (e_ (h:=aft_normal (wc_ret (?_))))))))))))
 all_goals (refine fin_ (hr:=(res_tmp rfl res_nil)) (h:=?_);(focus (first | (simp_all;done) | (simp_all <;> omega) | (simp_all <;> split <;> simp_all <;> omega))))
theorem eq_Ct (x y : Ct) : oc.call 134 [x.v,y.v] = some (.bool (decide (x = y)),[]) := by
 refine fun_s rfl cd134 rfl rfl rfl (by simp;rfl) (by simp;rfl) ?_
 refine wa_ (wc_region (w_ (bx (h:=w_ (bx (h:=w_ (a_ (h:=wo_nil (e_ (h:=aft_normal (wa_ (wa_ (wc_region (w_ (f_ (h:=w_ (l_ (h:=?_))))))))))))))))))
 refine w_ (f_ (h:=w_ (l_ (h:=w_ (bE (h:=wo_nil (e_ (h:=aft_normal (?_)))))))))
 refine c_ (h1:=?_) (h2:=?_)
 rotate_right 1
 focus
  intro c1
  refine wc_skip (?_)
 rotate_right 1
 focus
  intro c1
  refine wa_ (wc_region (w_ (a_ (h:=wo_nil (e_ (h:=aft_normal (wc_ret (?_))))))))
 all_goals first
 | refine aft_ret ?_
 | (
  refine aft_normal ?_
  refine wa_ (wa_ (wc_region (w_ (f_ (h:=w_ (l_ (h:=w_ (f_ (h:=w_ (l_ (h:=w_ (bE (h:=wo_nil (e_ (h:=aft_normal (?_))))))))))))))))
  refine c_ (h1:=?_) (h2:=?_)
  rotate_right 1
  focus
   intro c2
   refine wc_skip (?_)
  rotate_right 1
  focus
   intro c2
   refine wa_ (wc_region (w_ (a_ (h:=wo_nil (e_ (h:=aft_normal (wc_ret (?_))))))))
  all_goals first
  | refine aft_ret ?_
  | (
   refine aft_normal ?_
   refine wa_ (wa_ (wc_region (w_ (f_ (h:=w_ (l_ (h:=w_ (f_ (h:=w_ (l_ (h:=w_ (bE (h:=wo_nil (e_ (h:=aft_normal (?_))))))))))))))))
   refine c_ (h1:=?_) (h2:=?_)
   rotate_right 1
   focus
    intro c3
    refine wc_skip (?_)
   rotate_right 1
   focus
    intro c3
    refine wa_ (wc_region (w_ (a_ (h:=wo_nil (e_ (h:=aft_normal (wc_ret (?_))))))))
   all_goals first
   | refine aft_ret ?_
   | (
    refine aft_normal ?_
    refine wa_ (wc_region (w_ (a_ (h:=wo_nil (e_ (h:=aft_normal (wc_ret (?_))))))))
    )
   )
  )
 all_goals (refine fin_ (hr:=(res_tmp rfl res_nil)) (h:=?_);(focus (first | (simp_all [Ct.eq_iff];done) | (simp [Ct.eq_iff] at *;grind))))
theorem l_eq_Cts (l m : List Ct) (h : l.length < 2000000) (h2 : m.length < 2000000) (hlm : l.length = m.length) : ∀ i : Nat,(i ≤ l.length) → ∀ s,normE 2 (some [0,1,5]) s = ⟨[(0,.lst false 0 (cts l)),(1,.lst false 0 (cts m)),(5,.int .i64 i)],[],2⟩ →
 oc.loop 59 4 s = some (if l.drop i = m.drop i then (.exit 0,⟨[],[],2⟩) else (.ret,⟨[(4,.bool false)],[],2⟩)) := by
 refine loop_ind (σ:=Nat) (fun i => l.length - i) _ (fun i => ⟨[(0,.lst false 0 (cts l)),(1,.lst false 0 (cts m)),(5,.int .i64 i)],[],2⟩) _ ?_
 intro i hi ih s hs
 refine loop_s cd59 rfl rfl hs ?_
 refine wa_ (wa_ (wc_region (w_ (m_ (h:=w_ (m_ (h:=w_ (le (h:=w_ (b_ (h:=wo_nil (e_ (h:=aft_normal (?_))))))))))))))
 refine c_ (h1:=?_) (h2:=?_)
 rotate_right 1
 focus
  intro c1
  simp at c1;have : i = l.length := (by omega);subst this
  refine wc_exit (?_)
 rotate_right 1
 focus
  intro c1
  simp at c1;have hw := wrap_succ (i:=i) (by omega);obtain ⟨x,hx,d1,g1⟩ := cts_cut c1;obtain ⟨y,hy,d2,g2⟩ := cts_cut (l:=m) (i:=i) (by omega)
  refine wc_skip (?_)
 all_goals first
 | refine aft_exit ?_
 | (
  refine aft_normal ?_
  refine wa_ (wc_block (wa_ (wc_draw (y_ (m_ (h:=ax_ (h:=y_ (m_ (h:=ax_ (h:=y_ (x_ (h:=ax_ (h:=y_ (l_ (h:=ax_ (h:=y_ (m_ (h:=ax_ (h:=y_ (m_ (h:=ax_ (h:=y_ (x_ (h:=ax_ (h:=y_ (l_ (h:=ax_ (h:=?_))))))))))))))))))))))))))))
  refine y_ (ca (hc:=eq_Ct x y) (h:=ax_ (h:=y_ (u_ (h:=ax_ (h:=wo_nil (ed (h:=aft_normal (?_)))))))))
  refine c_ (h1:=?_) (h2:=?_)
  rotate_right 1
  focus
   intro c2
   refine wc_skip (?_)
  rotate_right 1
  focus
   intro c2
   refine wa_ (wc_region (w_ (a_ (h:=wo_nil (e_ (h:=aft_normal (wc_ret (?_))))))))
  all_goals first | refine blk_normal ?_ | refine blk_ret ?_
  all_goals first
  | refine aft_ret ?_
  | (
   refine aft_normal ?_
   refine wc_region (w_ (m_ (h:=w_ (b_ (h:=w_ (a_ (h:=wo_nil (e_ (h:=?_)))))))))
   )
  )
 all_goals first
 | (refine (ih (i + 1) (by omega) ?_ _ ?_).trans ?_;(focus (first | omega | (simp;done) | (simp;omega)));(focus (simp [normE,hw];done));(focus (simp at c2;rw [d1,d2];simp [c2])))
 | (apply end_leaf (ex:=Ext.ret) 2 (some [4]);(focus (simp [normE];rfl));(focus (simp at c2;rw [d1,d2];simp [c2])))
 | (apply end_leaf (ex:=(Ext.exit 0)) 2 (some [4]);(focus (simp [normE];rfl));(focus (rw [if_pos (by simp [hlm])])))
theorem eq_Cts (l m : List Ct) (h : l.length < 2000000) (h2 : m.length < 2000000) : oc.call 59 [.lst false 0 (cts l),.lst false 0 (cts m)] = some (.bool (decide (l = m)),[]) := by
 refine fun_s rfl cd59 rfl rfl rfl (by simp;rfl) (by simp;rfl) ?_
 refine wa_ (wc_region (w_ (a_ (h:=wo_nil (e_ (h:=aft_normal (wa_ (wa_ (wc_region (w_ (m_ (h:=w_ (le (h:=w_ (m_ (h:=w_ (le (h:=?_))))))))))))))))))
 refine w_ (bE (h:=wo_nil (e_ (h:=aft_normal (?_)))))
 refine c_ (h1:=?_) (h2:=?_)
 rotate_right 1
 focus
  intro c1
  simp at c1
  refine wc_skip (?_)
 rotate_right 1
 focus
  intro c1
  simp at c1;have hne : l ≠ m := (by rintro rfl;exact c1 rfl)
  refine wa_ (wc_region (w_ (a_ (h:=wo_nil (e_ (h:=aft_normal (wc_ret (?_))))))))
 all_goals first
 | refine aft_ret ?_
 | (
  refine aft_normal ?_
  refine wa_ (wa_ (wc_region (w_ (a_ (h:=wo_nil (e_ (h:=aft_normal (wc_block (?_)))))))))
  refine wc_loopI (l_eq_Cts l m h h2 (by omega) 0 (by omega) _ (by simp [normE])) ?_ ?_
  rotate_right 1
  focus
   intro c2
   skip
  rotate_right 1
  focus
   intro c2
   skip
  all_goals first | refine blk_ret ?_ | refine blk_exit ?_
  all_goals first
  | refine aft_ret ?_
  | (
   refine aft_normal ?_
   refine wa_ (wc_region (w_ (a_ (h:=wo_nil (e_ (h:=aft_normal (wc_ret (?_))))))))
   )
  )
 all_goals (refine fin_ (hr:=(res_tmp rfl res_nil)) (h:=?_);(focus (first | (simp_all;done) | (simp_all <;> omega) | (simp_all <;> split <;> simp_all <;> omega))))
end Go.Proofs.Ytgkbmiaimjpbfaa.Ev
namespace Go.Proofs.Ytgkbmiaimjpbfaa.Ev
open Go
set_option maxRecDepth 100000
set_option linter.unusedSimpArgs false
set_option linter.unusedVariables false
set_option maxHeartbeats 2000000
theorem oc_ok : CallOK Try.prog oc.call := by
  unfold oc
  exact or_sound (by kernel_rfl) tb
def i64ok (m : Int) : Prop := -9223372036854775808 ≤ m ∧ m ≤ 9223372036854775807
theorem dInt {n : Nat} {v : V} (h : hasT Try.prog (n + 1) 2 v) : ∃ m,v = .int .i64 m ∧ i64ok m := by
  obtain ⟨m,e,h1,h2⟩ := dec_int Try.underlying2 h
  exact ⟨m,e,by simpa [i64ok,IntKind.min,IntKind.max,IntKind.signed,IntKind.bits] using ⟨h1,h2⟩⟩
theorem dInts {n : Nat} {v : V} (h : hasT Try.prog (n + 2) 58 v) : ∃ l,v = .lst false 0 (ints l) ∧ l.length ≤ 140737488351232 ∧ ∀ m ∈ l,i64ok m := by
  obtain ⟨xs,e,h1,h2⟩ := dec_slice Try.underlying58 h
  obtain ⟨l,e2,h3⟩ := dec_list (f:=fun m => V.int .i64 m) (p:=i64ok) (fun x hx => dInt (h2 x hx))
  exact ⟨l,by rw [e,e2];rfl,by rw [e2] at h1;simpa using h1,h3⟩
theorem dNode {n : Nat} {v : V} (h : hasT Try.prog (n + 3) 139 v) : ∃ d : Nd,v = d.v false 0 ∧ d.cells.length ≤ 140737488351232 := by
  obtain ⟨xs,e,x1,q1,rfl,t1,x2,q2,rfl,t2,x3,q3,rfl,t3,x4,q4,rfl,t4,x5,q5,rfl,t5,x6,q6,rfl,t6,x7,q7,rfl,t7,hq⟩ := dec_struct Try.underlying139 h
  obtain ⟨a1,rfl,_⟩ := dInt t1;obtain ⟨a2,rfl,_⟩ := dInt t2;obtain ⟨a3,rfl,_⟩ := dInt t3;obtain ⟨a4,rfl,_⟩ := dInt t4;obtain ⟨a5,rfl,_⟩ := dInt t5;obtain ⟨a6,rfl,_⟩ := dInt t6
  obtain ⟨l,rfl,hl,_⟩ := dInts t7
  simp only [List.map_nil,hasL] at hq
  subst hq
  exact ⟨⟨a1,a2,a3,a4,a5,a6,l⟩,e,hl⟩
theorem dNodes {n : Nat} {v : V} (h : hasT Try.prog (n + 4) 61 v) : ∃ l,v = .lst false 0 (nds false 0 l) ∧ okB l := by
  obtain ⟨xs,e,h1,h2⟩ := dec_slice Try.underlying61 h
  obtain ⟨l,e2,h3⟩ := dec_list (f:=Nd.v false 0) (p:=fun d => d.cells.length ≤ 140737488351232) (fun x hx => dNode (h2 x hx))
  exact ⟨l,by rw [e,e2];rfl,by rw [e2] at h1;simpa using h1,h3⟩
theorem dCt {n : Nat} {v : V} (h : hasT Try.prog (n + 2) 168 v) : ∃ d : Ct,v = d.v := by
  obtain ⟨xs,e,x0,q0,rfl,t0,x1,q1,rfl,t1,x2,q2,rfl,t2,hq⟩ := dec_struct Try.underlying168 h
  obtain ⟨a0,rfl,_⟩ := dInt t0
  obtain ⟨a1,rfl,_⟩ := dInt t1
  obtain ⟨a2,rfl,_⟩ := dInt t2
  simp only [List.map_nil,hasL] at hq
  subst hq
  exact ⟨⟨a0,a1,a2⟩,e⟩
theorem dCts {n : Nat} {v : V} (h : hasT Try.prog (n + 3) 91 v) : ∃ l,v = .lst false 0 (cts l) ∧ l.length ≤ 140737488351232 := by
  obtain ⟨xs,e,h1,h2⟩ := dec_slice Try.underlying91 h
  obtain ⟨l,e2,_⟩ := dec_list (f:=Ct.v) (p:=fun _ => True) (fun x hx => by obtain ⟨d,hd⟩ := dCt (h2 x hx);exact ⟨d,hd,trivial⟩)
  exact ⟨l,by rw [e,e2];rfl,by rw [e2] at h1;simpa using h1⟩
def etss (t : Bool) (l : List (List Et)) : List V := l.map fun x => .lst t (lz t 2) (ets t x)
@[simp] theorem etss_len (t : Bool) (l : List (List Et)) : (etss t l).length = l.length := by simp [etss]
@[simp] theorem etss_nil (t : Bool) : etss t [] = [] := rfl
@[simp] theorem etss_cons (t : Bool) (x : List Et) (l : List (List Et)) : etss t (x :: l) = .lst t (lz t 2) (ets t x) :: etss t l := rfl
@[simp] theorem etss_join (t : Bool) (l m : List (List Et)) : etss t l ++ etss t m = etss t (l ++ m) := by simp [etss]
@[simp] theorem etss_snocT (l : List (List Et)) (x : List Et) : etss true l ++ [.lst true 2 (ets true x)] = etss true (l ++ [x]) := by simp [etss]
@[simp] theorem etss_snocF (l : List (List Et)) (x : List Et) : etss false l ++ [.lst false 0 (ets false x)] = etss false (l ++ [x]) := by simp [etss]
@[simp] theorem etss_setT (l : List (List Et)) (i : Nat) (x : List Et) : (etss true l).set i (.lst true 2 (ets true x)) = etss true (l.set i x) := by simp [etss,List.map_set]
@[simp] theorem etss_setF (l : List (List Et)) (i : Nat) (x : List Et) : (etss false l).set i (.lst false 0 (ets false x)) = etss false (l.set i x) := by simp [etss,List.map_set]
@[simp] theorem etss_take (t : Bool) (n : Nat) (l : List (List Et)) : (etss t l).take n = etss t (l.take n) := by simp [etss,List.map_take]
@[simp] theorem etss_drop (t : Bool) (n : Nat) (l : List (List Et)) : (etss t l).drop n = etss t (l.drop n) := by simp [etss,List.map_drop]
@[simp] theorem etss_shareL (t : Bool) (l : List (List Et)) : V.shareL (etss t l) = etss false l := by
  induction l with
  | nil => rfl
  | cons x l ih => simp [V.shareL,ih,lst_share]
@[simp] theorem etss_tidyT (l : List (List Et)) : V.tidyL (etss true l) = true := by
  induction l with
  | nil => rfl
  | cons x l ih => simp [V.tidyL,V.tidy,ih]
theorem alikeL_lss {α β : Type} {f : α → V} {g : β → V} (hf : ∀ x y,(f x).alike (g y) = true) : ∀ {a : List α} {b : List β},V.alikeL (a.map f) (b.map g) = decide (a.length = b.length)
  | [],[] => rfl
  | [],_ :: _ => by simp [V.alikeL]
  | _ :: _,[] => by simp [V.alikeL]
  | x :: a,y :: b => by simp only [List.map_cons,V.alikeL,hf,Bool.true_and,alikeL_lss hf (a:=a) (b:=b),List.length_cons,Nat.add_right_cancel_iff]
@[simp] theorem alike_etss (t u : Bool) (a b : List (List Et)) : V.alikeL (etss t a) (etss u b) = decide (a.length = b.length) := alikeL_lss (fun _ _ => rfl)
def frss (t : Bool) (l : List (List Fr)) : List V := l.map fun x => .lst t (lz t 6) (frs t x)
@[simp] theorem frss_len (t : Bool) (l : List (List Fr)) : (frss t l).length = l.length := by simp [frss]
@[simp] theorem frss_nil (t : Bool) : frss t [] = [] := rfl
@[simp] theorem frss_cons (t : Bool) (x : List Fr) (l : List (List Fr)) : frss t (x :: l) = .lst t (lz t 6) (frs t x) :: frss t l := rfl
@[simp] theorem frss_join (t : Bool) (l m : List (List Fr)) : frss t l ++ frss t m = frss t (l ++ m) := by simp [frss]
@[simp] theorem frss_snocT (l : List (List Fr)) (x : List Fr) : frss true l ++ [.lst true 6 (frs true x)] = frss true (l ++ [x]) := by simp [frss]
@[simp] theorem frss_snocF (l : List (List Fr)) (x : List Fr) : frss false l ++ [.lst false 0 (frs false x)] = frss false (l ++ [x]) := by simp [frss]
@[simp] theorem frss_setT (l : List (List Fr)) (i : Nat) (x : List Fr) : (frss true l).set i (.lst true 6 (frs true x)) = frss true (l.set i x) := by simp [frss,List.map_set]
@[simp] theorem frss_setF (l : List (List Fr)) (i : Nat) (x : List Fr) : (frss false l).set i (.lst false 0 (frs false x)) = frss false (l.set i x) := by simp [frss,List.map_set]
@[simp] theorem frss_take (t : Bool) (n : Nat) (l : List (List Fr)) : (frss t l).take n = frss t (l.take n) := by simp [frss,List.map_take]
@[simp] theorem frss_drop (t : Bool) (n : Nat) (l : List (List Fr)) : (frss t l).drop n = frss t (l.drop n) := by simp [frss,List.map_drop]
@[simp] theorem frss_shareL (t : Bool) (l : List (List Fr)) : V.shareL (frss t l) = frss false l := by
  induction l with
  | nil => rfl
  | cons x l ih => simp [V.shareL,ih,lst_share]
@[simp] theorem frss_tidyT (l : List (List Fr)) : V.tidyL (frss true l) = true := by
  induction l with
  | nil => rfl
  | cons x l ih => simp [V.tidyL,V.tidy,ih]
@[simp] theorem alike_frss (t u : Bool) (a b : List (List Fr)) : V.alikeL (frss t a) (frss u b) = decide (a.length = b.length) := alikeL_lss (fun _ _ => rfl)
end Go.Proofs.Ytgkbmiaimjpbfaa.Ev
namespace Go.Proofs.Ytgkbmiaimjpbfaa.Ev
open Go
set_option maxRecDepth 100000
set_option linter.unusedSimpArgs false
set_option linter.unusedVariables false
set_option maxHeartbeats 2000000
theorem l_eqG (a b : List Int) (z z' : Nat) (ha : a.length < 4000000000) (hab : a.length = b.length) : ∀ i : Nat,i ≤ a.length → ∀ s,normE 2 (some [0,1,12,13]) s = ⟨[(0,.lst false z (ints a)),(1,.lst false z' (ints b)),(12,.int .i64 a.length),(13,.int .i64 i)],[],2⟩ →
 oc.loop 186 4 s = some (if a.drop i = b.drop i then (.exit 0,⟨[],[],2⟩) else (.ret,⟨[(4,.bool false)],[],2⟩)) := by
 refine loop_ind (fun i => a.length - i) _ (fun i => ⟨[(0,.lst false z (ints a)),(1,.lst false z' (ints b)),(12,.int .i64 a.length),(13,.int .i64 i)],[],2⟩) _ ?_
 intro i hi ih s hs
 refine loop_s cd186 rfl rfl hs ?_
 refine wa_ (wc_region (w_ (b_ (h:=wo_nil (e_ (h:=aft_normal (wa_ (?_))))))))
 refine c_ (h1:=?_) (h2:=?_)
 rotate_right 1
 focus
  intro c1
  simp at c1;have : i = a.length := (by omega);subst this
  refine wc_exit (?_)
 rotate_right 1
 focus
  intro c1
  simp at c1;have hw := wrap_succ (i:=i) (by omega);obtain ⟨x,_,d1,g1⟩ := ints_cut c1;obtain ⟨y,_,d2,g2⟩ := ints_cut (l:=b) (i:=i) (by omega)
  refine wc_skip (?_)
 all_goals first
 | refine aft_exit ?_
 | (
  refine aft_normal ?_
  refine wa_ (wc_block (wa_ (wc_region (w_ (m_ (h:=w_ (a_ (h:=wo_nil (e_ (h:=aft_normal (wa_ (wc_draw (y_ (m_ (h:=ax_ (h:=y_ (m_ (h:=ax_ (h:=?_)))))))))))))))))))
  refine y_ (x_ (h:=ax_ (h:=y_ (l_ (h:=ax_ (h:=y_ (m_ (h:=ax_ (h:=y_ (m_ (h:=ax_ (h:=y_ (x_ (h:=ax_ (h:=y_ (l_ (h:=ax_ (h:=y_ (bE (h:=ax_ (h:=wo_nil (ed (h:=aft_normal (?_))))))))))))))))))))))))
  refine c_ (h1:=?_) (h2:=?_)
  rotate_right 1
  focus
   intro c2
   refine wc_skip (?_)
  rotate_right 1
  focus
   intro c2
   refine wa_ (wc_region (w_ (a_ (h:=wo_nil (e_ (h:=aft_normal (wc_ret (?_))))))))
  all_goals first | refine blk_normal ?_ | refine blk_ret ?_
  all_goals first
  | refine aft_ret ?_
  | (
   refine aft_normal ?_
   refine wc_region (w_ (b_ (h:=w_ (m_ (h:=wo_nil (e_ (h:=?_)))))))
   )
  )
 all_goals first
 | (refine (ih (i + 1) (by omega) ?_ _ ?_).trans ?_;(focus (first | omega | (simp;done) | (simp;omega)));(focus (simp [normE,hw];done));(focus (simp at c2;rw [d1,d2];simp [c2])))
 | (apply end_leaf (ex:=Ext.ret) 2 (some [4]);(focus (simp [normE];rfl));(focus (simp at c2;rw [d1,d2];simp [c2])))
 | (apply end_leaf (ex:=(Ext.exit 0)) 2 (some [4]);(focus (simp [normE];rfl));(focus (rw [if_pos (by simp [hab])])))
theorem e_eqG (a b : List Int) (z z' : Nat) (ha : a.length < 4000000000) (hb : b.length < 4000000000) : oc.call 186 [.lst false z (ints a),.lst false z' (ints b)] = some (.bool (decide (a = b)),[]) := by
 refine fun_s rfl cd186 rfl rfl rfl (by simp;rfl) (by simp;rfl) ?_
 refine wa_ (wc_region (w_ (a_ (h:=wo_nil (e_ (h:=aft_normal (wa_ (wa_ (wc_region (w_ (m_ (h:=w_ (le (h:=w_ (m_ (h:=w_ (le (h:=?_))))))))))))))))))
 refine w_ (bE (h:=wo_nil (e_ (h:=aft_normal (?_)))))
 refine c_ (h1:=?_) (h2:=?_)
 rotate_right 1
 focus
  intro c1
  simp at c1
  refine wc_skip (?_)
 rotate_right 1
 focus
  intro c1
  simp at c1;have hne : a ≠ b := (by rintro rfl;exact c1 rfl)
  refine wa_ (wc_region (w_ (a_ (h:=wo_nil (e_ (h:=aft_normal (wc_ret (?_))))))))
 all_goals first
 | refine aft_ret ?_
 | (
  refine aft_normal ?_
  refine wa_ (wa_ (wc_region (w_ (m_ (h:=w_ (le (h:=w_ (m_ (h:=wo_nil (e_ (h:=aft_normal (wc_block (?_)))))))))))))
  refine wc_loopI (l_eqG a b z z' ha (by omega) 0 (by omega) _ (by simp [normE])) ?_ ?_
  rotate_right 1
  focus
   intro c2
   skip
  rotate_right 1
  focus
   intro c2
   skip
  all_goals first | refine blk_ret ?_ | refine blk_exit ?_
  all_goals first
  | refine aft_ret ?_
  | (
   refine aft_normal ?_
   refine wa_ (wc_region (w_ (a_ (h:=wo_nil (e_ (h:=aft_normal (wc_ret (?_))))))))
   )
  )
 all_goals (refine fin_ (hr:=(res_tmp rfl res_nil)) (h:=?_);(focus (first | (simp_all;done) | (simp_all <;> omega) | (simp_all <;> split <;> simp_all <;> omega))))
theorem e_same (z z' : Nat) (d g : Nd) (ha : d.cells.length < 4000000) (hb : g.cells.length < 4000000) : oc.call 168 [d.v false z,g.v false z'] = some (.bool (decide (d = g)),[]) := by
 refine fun_s rfl cd168 rfl rfl rfl (by simp;rfl) (by simp;rfl) ?_
 refine wa_ (wc_region (w_ (bx (h:=w_ (bx (h:=w_ (a_ (h:=wo_nil (e_ (h:=aft_normal (wa_ (wc_region (w_ (f_ (h:=w_ (l_ (h:=w_ (f_ (h:=?_)))))))))))))))))))
 refine w_ (l_ (h:=w_ (bE (h:=w_ (m_ (h:=?_))))))
 refine gw_ (h1:=?_) (h2:=?_)
 rotate_right 1
 focus
  intro c1
  first
  | exact dn c1
  | (
   have d1 := c1;try simp at d1
   refine go_ (h:=go_ (h:=go_ (h:=go_ (h:=go_ (h:=?_)))))
   )
 rotate_right 1
 focus
  intro c1
  first
  | exact dn c1
  | (
   have d1 := c1;try simp at d1
   refine g_ (h:=w_ (f_ (h:=g_ (h:=w_ (l_ (h:=g_ (h:=w_ (f_ (h:=g_ (h:=w_ (l_ (h:=g_ (h:=w_ (bE (h:=?_)))))))))))))))
   )
 all_goals
  refine w_ (pk (h:=w_ (m_ (h:=?_))))
  refine gw_ (h1:=?_) (h2:=?_)
  rotate_right 1
  focus
   intro c2
   first
   | exact dn c2
   | (
    have d2 := c2;try simp at d2
    refine go_ (h:=go_ (h:=go_ (h:=go_ (h:=go_ (h:=?_)))))
    )
  rotate_right 1
  focus
   intro c2
   first
   | exact dn c2
   | (
    have d2 := c2;try simp at d2
    refine g_ (h:=w_ (f_ (h:=g_ (h:=w_ (l_ (h:=g_ (h:=w_ (f_ (h:=g_ (h:=w_ (l_ (h:=g_ (h:=w_ (bE (h:=?_)))))))))))))))
    )
  all_goals
   refine w_ (pk (h:=w_ (m_ (h:=?_))))
   refine gw_ (h1:=?_) (h2:=?_)
   rotate_right 1
   focus
    intro c3
    first
    | exact dn c3
    | (
     have d3 := c3;try simp at d3
     refine go_ (h:=go_ (h:=go_ (h:=go_ (h:=go_ (h:=?_)))))
     )
   rotate_right 1
   focus
    intro c3
    first
    | exact dn c3
    | (
     have d3 := c3;try simp at d3
     refine g_ (h:=w_ (f_ (h:=g_ (h:=w_ (l_ (h:=g_ (h:=w_ (f_ (h:=g_ (h:=w_ (l_ (h:=g_ (h:=w_ (bE (h:=?_)))))))))))))))
     )
   all_goals
    refine w_ (pk (h:=w_ (m_ (h:=?_))))
    refine gw_ (h1:=?_) (h2:=?_)
    rotate_right 1
    focus
     intro c4
     first
     | exact dn c4
     | (
      have d4 := c4;try simp at d4
      refine go_ (h:=go_ (h:=go_ (h:=go_ (h:=go_ (h:=?_)))))
      )
    rotate_right 1
    focus
     intro c4
     first
     | exact dn c4
     | (
      have d4 := c4;try simp at d4
      refine g_ (h:=w_ (f_ (h:=g_ (h:=w_ (l_ (h:=g_ (h:=w_ (f_ (h:=g_ (h:=w_ (l_ (h:=g_ (h:=w_ (bE (h:=?_)))))))))))))))
      )
    all_goals
     refine w_ (pk (h:=w_ (m_ (h:=?_))))
     refine gw_ (h1:=?_) (h2:=?_)
     rotate_right 1
     focus
      intro c5
      first
      | exact dn c5
      | (
       have d5 := c5;try simp at d5
       refine go_ (h:=go_ (h:=go_ (h:=go_ (h:=go_ (h:=?_)))))
       )
     rotate_right 1
     focus
      intro c5
      first
      | exact dn c5
      | (
       have d5 := c5;try simp at d5
       refine g_ (h:=w_ (f_ (h:=g_ (h:=w_ (l_ (h:=g_ (h:=w_ (f_ (h:=g_ (h:=w_ (l_ (h:=g_ (h:=w_ (bE (h:=?_)))))))))))))))
       )
     all_goals
      refine w_ (pk (h:=w_ (m_ (h:=?_))))
      refine gw_ (h1:=?_) (h2:=?_)
      rotate_right 1
      focus
       intro c6
       first
       | exact dn c6
       | (
        have d6 := c6;try simp at d6
        refine go_ (h:=go_ (h:=go_ (h:=go_ (h:=go_ (h:=?_)))))
        )
      rotate_right 1
      focus
       intro c6
       first
       | exact dn c6
       | (
        have d6 := c6;try simp at d6
        refine g_ (h:=w_ (f_ (h:=g_ (h:=w_ (l_ (h:=g_ (h:=w_ (f_ (h:=g_ (h:=w_ (l_ (h:=g_ (h:=w_ (ca (hc:=e_eqG _ _ _ _ (by omega) (by omega)) (h:=?_)))))))))))))))
        )
      all_goals
       refine w_ (pk (h:=w_ (a_ (h:=wo_nil (e_ (h:=?_))))))
 all_goals first
 | (
  refine aft_normal ?_
  refine wc_ret (?_)
  )
 all_goals (refine fin_ (hr:=(res_tmp rfl res_nil)) (h:=?_);(focus (simp [Nd.eq_iff];grind)))
def readsN (d : Nd) : List Int := if d.op = 1 then [] else if d.op = 4 ∨ d.op = 6 then [d.a,d.b] else [d.a]
theorem e_reads (z : Nat) (d : Nd) : oc.call 170 [d.v false z] = some (.lst true 1 (ints (readsN d)),[]) := by
 refine fun_s rfl cd170 rfl rfl rfl (by simp;rfl) (by simp;rfl) ?_
 refine wa_ (wc_region (w_ (bx (h:=w_ (aN (h:=wo_nil (e_ (h:=aft_normal (wa_ (wc_block (wa_ (wc_region (w_ (f_ (h:=w_ (l_ (h:=?_)))))))))))))))))
 refine w_ (bE (h:=w_ (a_ (h:=wo_nil (e_ (h:=aft_normal (?_)))))))
 refine c_ (h1:=?_) (h2:=?_)
 rotate_right 1
 focus
  intro c1
  first
  | exact dn c1
  | (
   have d1 := c1;try simp at d1
   refine wa_ (wc_region (w_ (f_ (h:=w_ (l_ (h:=w_ (ca (hc:=e_two _) (h:=w_ (a_ (h:=wo_nil (e_ (h:=aft_normal (?_)))))))))))))
   refine c_ (h1:=?_) (h2:=?_)
   rotate_right 1
   focus
    intro c2
    first
    | exact dn c2
    | (
     have d2 := c2;try simp at d2
     refine wc_skip (?_)
     )
   rotate_right 1
   focus
    intro c2
    first
    | exact dn c2
    | (
     have d2 := c2;try simp at d2
     refine wa_ (wc_region (w_ (f_ (h:=w_ (l_ (h:=w_ (f_ (h:=w_ (l_ (h:=w_ (bs (h:=w_ (a_ (h:=wo_nil (e_ (h:=aft_normal (wc_ret (?_))))))))))))))))))
     )
   )
 rotate_right 1
 focus
  intro c1
  first
  | exact dn c1
  | (
   have d1 := c1;try simp at d1
   refine wa_ (wc_region (w_ (aN (h:=wo_nil (e_ (h:=aft_normal (wc_ret (?_))))))))
   )
 all_goals first | refine blk_normal ?_ | refine blk_ret ?_
 all_goals first
 | refine aft_ret ?_
 | (
  refine aft_normal ?_
  refine wa_ (wc_region (w_ (f_ (h:=w_ (l_ (h:=w_ (bs (h:=w_ (a_ (h:=wo_nil (e_ (h:=aft_normal (wc_ret (?_))))))))))))))
  )
 all_goals (refine fin_ (hr:=(res_tmp rfl res_nil)) (h:=?_);(focus (simp_all [readsN])))
def plainN (d : Nd) : Nd := ⟨d.op,if d.op = 1 then 0 else d.a,if d.op = 4 ∨ d.op = 6 then d.b else 0,if d.op = 1 ∨ d.op = 2 ∨ 6 ≤ d.op ∧ d.op ≤ 10 then d.col else 0,if d.op = 2 then d.test else 0,if d.op = 2 then d.value else 0,if d.op = 3 then d.cells else []⟩
theorem e_plain3 (z : Nat) (d : Nd) (h : d.op = 3) : oc.call 169 [d.v false z] = some ((plainN d).v false z,[]) := by
 refine fun_s rfl cd169 rfl rfl rfl (by simp;rfl) (by simp;rfl) ?_
 refine wa_ (wc_region (w_ (bx (h:=w_ (al (h:=wo_nil (e_ (h:=aft_normal (wa_ (wc_region (w_ (f_ (h:=w_ (l_ (h:=w_ (bd (h:=w_ (al (h:=?_)))))))))))))))))))
 refine w0 (s_ (h:=wo_nil (e_ (h:=aft_normal (wa_ (wa_ (wc_region (w_ (f_ (h:=w_ (l_ (h:=w_ (bE (h:=wo_nil (e_ (h:=aft_normal (?_)))))))))))))))))
 refine c_ (h1:=?_) (h2:=?_)
 rotate_right 1
 focus
  intro c1
  first
  | exact dn c1
  | (
   have d1 := c1;try simp at d1
   refine wc_skip (?_)
   )
 rotate_right 1
 focus
  intro c1
  first
  | exact dn c1
  | (
   have d1 := c1;try simp at d1
   refine wc_region (w_ (f_ (h:=w_ (l_ (h:=w_ (f_ (h:=w0 (s_ (h:=wo_nil (e_ (h:=?_)))))))))))
   )
 all_goals first
 | (
  refine aft_normal ?_
  refine wa_ (wa_ (wc_region (w_ (f_ (h:=w_ (l_ (h:=w_ (ca (hc:=e_two _) (h:=wo_nil (e_ (h:=aft_normal (?_))))))))))))
  refine c_ (h1:=?_) (h2:=?_)
  rotate_right 1
  focus
   intro c2
   first
   | exact dn c2
   | (
    have d2 := c2;try simp at d2
    refine wc_skip (?_)
    )
  rotate_right 1
  focus
   intro c2
   first
   | exact dn c2
   | (
    have d2 := c2;try simp at d2
    refine wc_region (w_ (f_ (h:=w_ (l_ (h:=w_ (f_ (h:=w0 (s_ (h:=wo_nil (e_ (h:=?_)))))))))))
    )
  all_goals first
  | (
   refine aft_normal ?_
   refine wa_ (wa_ (wc_region (w_ (f_ (h:=w_ (l_ (h:=wo_nil (e_ (h:=aft_normal (wc_block (wa_ (wa_ (wc_region (w_ (bE (h:=?_))))))))))))))))
   refine w_ (a_ (h:=wo_nil (e_ (h:=aft_normal (?_)))))
   refine c_ (h1:=?_) (h2:=?_)
   rotate_right 1
   focus
    intro c3
    first
    | exact dn c3
    | (
     have d3 := c3;try simp at d3
     refine wa_ (wc_region (w_ (bE (h:=w_ (a_ (h:=wo_nil (e_ (h:=aft_normal (?_)))))))))
     refine c_ (h1:=?_) (h2:=?_)
     rotate_right 1
     focus
      intro c4
      first
      | exact dn c4
      | (
       have d4 := c4;try simp at d4
       refine wa_ (wc_region (w_ (bE (h:=w_ (a_ (h:=wo_nil (e_ (h:=aft_normal (?_)))))))))
       refine c_ (h1:=?_) (h2:=?_)
       rotate_right 1
       focus
        intro c5
        first
        | exact dn c5
        | (
         have d5 := c5;try simp at d5
         refine wa_ (wc_region (w_ (bE (h:=w_ (a_ (h:=wo_nil (e_ (h:=aft_normal (?_)))))))))
         refine c_ (h1:=?_) (h2:=?_)
         rotate_right 1
         focus
          intro c6
          first
          | exact dn c6
          | (
           have d6 := c6;try simp at d6
           refine wa_ (wc_region (w_ (bE (h:=w_ (a_ (h:=wo_nil (e_ (h:=aft_normal (?_)))))))))
           refine c_ (h1:=?_) (h2:=?_)
           rotate_right 1
           focus
            intro c7
            first
            | exact dn c7
            | (
             have d7 := c7;try simp at d7
             refine wc_region (w_ (bE (h:=w_ (a_ (h:=wo_nil (e_ (h:=?_)))))))
             )
           rotate_right 1
           focus
            intro c7
            first
            | exact dn c7
            | (
             have d7 := c7;try simp at d7
             refine wc_skip (?_)
             )
           )
         rotate_right 1
         focus
          intro c6
          first
          | exact dn c6
          | (
           have d6 := c6;try simp at d6
           refine wc_skip (?_)
           )
         )
       rotate_right 1
       focus
        intro c5
        first
        | exact dn c5
        | (
         have d5 := c5;try simp at d5
         refine wc_skip (?_)
         )
       )
     rotate_right 1
     focus
      intro c4
      first
      | exact dn c4
      | (
       have d4 := c4;try simp at d4
       refine wc_skip (?_)
       )
     )
   rotate_right 1
   focus
    intro c3
    first
    | exact dn c3
    | (
     have d3 := c3;try simp at d3
     refine wc_skip (?_)
     )
   all_goals first
   | (
    refine aft_normal ?_
    refine c_ (h1:=?_) (h2:=?_)
    rotate_right 1
    focus
     intro c8
     first
     | exact dn c8
     | (
      have d8 := c8;try simp at d8
      refine wa_ (wc_region (w_ (bE (h:=w_ (a_ (h:=wo_nil (e_ (h:=aft_normal (?_)))))))))
      refine c_ (h1:=?_) (h2:=?_)
      rotate_right 1
      focus
       intro c9
       first
       | exact dn c9
       | (
        have d9 := c9;try simp at d9
        refine wa_ (wc_region (w_ (bE (h:=w_ (a_ (h:=wo_nil (e_ (h:=aft_normal (?_)))))))))
        refine c_ (h1:=?_) (h2:=?_)
        rotate_right 1
        focus
         intro c10
         first
         | exact dn c10
         | (
          have d10 := c10;try simp at d10
          refine wc_skip (?_)
          )
        rotate_right 1
        focus
         intro c10
         first
         | exact dn c10
         | (
          have d10 := c10;try simp at d10
          refine wc_region (w_ (f_ (h:=w_ (l_ (h:=w_ (f_ (h:=w0 (s_ (h:=wo_nil (e_ (h:=?_)))))))))))
          )
        )
      rotate_right 1
      focus
       intro c9
       first
       | exact dn c9
       | (
        have d9 := c9;try simp at d9
        refine wc_draw (y_ (f_ (h:=ax_ (h:=y_ (l_ (h:=ax_ (h:=y_ (f_ (h:=ax_ (h:=y_ (l_ (h:=ax_ (h:=y_ (f_ (h:=ax_ (h:=y_ (l_ (h:=ax_ (h:=y_ (f_ (h:=ax_ (h:=y0 (s_ (h:=ax_ (h:=y_ (f_ (h:=ax_ (h:=y0 (s_ (h:=ax_ (h:=y_ (f_ (h:=ax_ (h:=?_))))))))))))))))))))))))))))))))))
        refine y0 (s_ (h:=ax_ (h:=wo_nil (ed (h:=?_)))))
        )
      )
    rotate_right 1
    focus
     intro c8
     first
     | exact dn c8
     | (
      have d8 := c8;try simp at d8
      refine wc_region (w_ (f_ (h:=w_ (l_ (h:=w_ (f_ (h:=w0 (s_ (h:=wo_nil (e_ (h:=?_)))))))))))
      )
    )
   all_goals refine blk_normal ?_
   all_goals first
   | (
    refine aft_normal ?_
    refine wa_ (wc_region (w_ (l_ (h:=w0 (s_ (h:=wo_nil (e_ (h:=aft_normal (wc_ret (?_))))))))))
    )
   )
  )
 all_goals (refine fin_ (hr:=(res_cell (tys_ok.zero _ _ rfl) rfl (by simp;rfl) (by rfl) res_nil)) (h:=?_);(focus (simp [Nd.v,plainN];grind)))
theorem e_plain (z : Nat) (d : Nd) (h : d.op ≠ 3) : oc.call 169 [d.v false z] = some ((plainN d).v true 1,[]) := by
 refine fun_s rfl cd169 rfl rfl rfl (by simp;rfl) (by simp;rfl) ?_
 refine wa_ (wc_region (w_ (bx (h:=w_ (al (h:=wo_nil (e_ (h:=aft_normal (wa_ (wc_region (w_ (f_ (h:=w_ (l_ (h:=w_ (bd (h:=w_ (al (h:=?_)))))))))))))))))))
 refine w0 (s_ (h:=wo_nil (e_ (h:=aft_normal (wa_ (wa_ (wc_region (w_ (f_ (h:=w_ (l_ (h:=w_ (bE (h:=wo_nil (e_ (h:=aft_normal (?_)))))))))))))))))
 refine c_ (h1:=?_) (h2:=?_)
 rotate_right 1
 focus
  intro c1
  first
  | exact dn c1
  | (
   have d1 := c1;try simp at d1
   refine wc_skip (?_)
   )
 rotate_right 1
 focus
  intro c1
  first
  | exact dn c1
  | (
   have d1 := c1;try simp at d1
   refine wc_region (w_ (f_ (h:=w_ (l_ (h:=w_ (f_ (h:=w0 (s_ (h:=wo_nil (e_ (h:=?_)))))))))))
   )
 all_goals first
 | (
  refine aft_normal ?_
  refine wa_ (wa_ (wc_region (w_ (f_ (h:=w_ (l_ (h:=w_ (ca (hc:=e_two _) (h:=wo_nil (e_ (h:=aft_normal (?_))))))))))))
  refine c_ (h1:=?_) (h2:=?_)
  rotate_right 1
  focus
   intro c2
   first
   | exact dn c2
   | (
    have d2 := c2;try simp at d2
    refine wc_skip (?_)
    )
  rotate_right 1
  focus
   intro c2
   first
   | exact dn c2
   | (
    have d2 := c2;try simp at d2
    refine wc_region (w_ (f_ (h:=w_ (l_ (h:=w_ (f_ (h:=w0 (s_ (h:=wo_nil (e_ (h:=?_)))))))))))
    )
  all_goals first
  | (
   refine aft_normal ?_
   refine wa_ (wa_ (wc_region (w_ (f_ (h:=w_ (l_ (h:=wo_nil (e_ (h:=aft_normal (wc_block (wa_ (wa_ (wc_region (w_ (bE (h:=?_))))))))))))))))
   refine w_ (a_ (h:=wo_nil (e_ (h:=aft_normal (?_)))))
   refine c_ (h1:=?_) (h2:=?_)
   rotate_right 1
   focus
    intro c3
    first
    | exact dn c3
    | (
     have d3 := c3;try simp at d3
     refine wa_ (wc_region (w_ (bE (h:=w_ (a_ (h:=wo_nil (e_ (h:=aft_normal (?_)))))))))
     refine c_ (h1:=?_) (h2:=?_)
     rotate_right 1
     focus
      intro c4
      first
      | exact dn c4
      | (
       have d4 := c4;try simp at d4
       refine wa_ (wc_region (w_ (bE (h:=w_ (a_ (h:=wo_nil (e_ (h:=aft_normal (?_)))))))))
       refine c_ (h1:=?_) (h2:=?_)
       rotate_right 1
       focus
        intro c5
        first
        | exact dn c5
        | (
         have d5 := c5;try simp at d5
         refine wa_ (wc_region (w_ (bE (h:=w_ (a_ (h:=wo_nil (e_ (h:=aft_normal (?_)))))))))
         refine c_ (h1:=?_) (h2:=?_)
         rotate_right 1
         focus
          intro c6
          first
          | exact dn c6
          | (
           have d6 := c6;try simp at d6
           refine wa_ (wc_region (w_ (bE (h:=w_ (a_ (h:=wo_nil (e_ (h:=aft_normal (?_)))))))))
           refine c_ (h1:=?_) (h2:=?_)
           rotate_right 1
           focus
            intro c7
            first
            | exact dn c7
            | (
             have d7 := c7;try simp at d7
             refine wc_region (w_ (bE (h:=w_ (a_ (h:=wo_nil (e_ (h:=?_)))))))
             )
           rotate_right 1
           focus
            intro c7
            first
            | exact dn c7
            | (
             have d7 := c7;try simp at d7
             refine wc_skip (?_)
             )
           )
         rotate_right 1
         focus
          intro c6
          first
          | exact dn c6
          | (
           have d6 := c6;try simp at d6
           refine wc_skip (?_)
           )
         )
       rotate_right 1
       focus
        intro c5
        first
        | exact dn c5
        | (
         have d5 := c5;try simp at d5
         refine wc_skip (?_)
         )
       )
     rotate_right 1
     focus
      intro c4
      first
      | exact dn c4
      | (
       have d4 := c4;try simp at d4
       refine wc_skip (?_)
       )
     )
   rotate_right 1
   focus
    intro c3
    first
    | exact dn c3
    | (
     have d3 := c3;try simp at d3
     refine wc_skip (?_)
     )
   all_goals first
   | (
    refine aft_normal ?_
    refine c_ (h1:=?_) (h2:=?_)
    rotate_right 1
    focus
     intro c8
     first
     | exact dn c8
     | (
      have d8 := c8;try simp at d8
      refine wa_ (wc_region (w_ (bE (h:=w_ (a_ (h:=wo_nil (e_ (h:=aft_normal (?_)))))))))
      refine c_ (h1:=?_) (h2:=?_)
      rotate_right 1
      focus
       intro c9
       first
       | exact dn c9
       | (
        have d9 := c9;try simp at d9
        refine wa_ (wc_region (w_ (bE (h:=w_ (a_ (h:=wo_nil (e_ (h:=aft_normal (?_)))))))))
        refine c_ (h1:=?_) (h2:=?_)
        rotate_right 1
        focus
         intro c10
         first
         | exact dn c10
         | (
          have d10 := c10;try simp at d10
          refine wc_skip (?_)
          )
        rotate_right 1
        focus
         intro c10
         first
         | exact dn c10
         | (
          have d10 := c10;try simp at d10
          refine wc_region (w_ (f_ (h:=w_ (l_ (h:=w_ (f_ (h:=w0 (s_ (h:=wo_nil (e_ (h:=?_)))))))))))
          )
        )
      rotate_right 1
      focus
       intro c9
       first
       | exact dn c9
       | (
        have d9 := c9;try simp at d9
        refine wc_draw (y_ (f_ (h:=ax_ (h:=y_ (l_ (h:=ax_ (h:=y_ (f_ (h:=ax_ (h:=y_ (l_ (h:=ax_ (h:=y_ (f_ (h:=ax_ (h:=y_ (l_ (h:=ax_ (h:=y_ (f_ (h:=ax_ (h:=y0 (s_ (h:=ax_ (h:=y_ (f_ (h:=ax_ (h:=y0 (s_ (h:=ax_ (h:=y_ (f_ (h:=ax_ (h:=?_))))))))))))))))))))))))))))))))))
        refine y0 (s_ (h:=ax_ (h:=wo_nil (ed (h:=?_)))))
        )
      )
    rotate_right 1
    focus
     intro c8
     first
     | exact dn c8
     | (
      have d8 := c8;try simp at d8
      refine wc_region (w_ (f_ (h:=w_ (l_ (h:=w_ (f_ (h:=w0 (s_ (h:=wo_nil (e_ (h:=?_)))))))))))
      )
    )
   all_goals refine blk_normal ?_
   all_goals first
   | (
    refine aft_normal ?_
    refine wa_ (wc_region (w_ (l_ (h:=w0 (s_ (h:=wo_nil (e_ (h:=aft_normal (wc_ret (?_))))))))))
    )
   )
  )
 all_goals (refine fin_ (hr:=(res_cell (tys_ok.zero _ _ rfl) rfl (by simp;rfl) (by rfl) res_nil)) (h:=?_);(focus (simp [Nd.v,plainN,h];grind)))
def at0 (w : List Int) (a : Int) : Int := w.getD a.toNat 0
theorem ints_ix {w : List Int} {a : Int} (h0 : 0 ≤ a) (h : a < w.length) : (ints w)[a.toNat]? = some (.int .i64 (at0 w a)) := by
  have : a.toNat < w.length := by omega
  simp [ints,at0,this]
def widthN (d : Nd) (w : List Int) : Int :=
  if d.op = 1 then d.col else if d.op = 3 then d.cells.length else if d.op = 6 then IntKind.i64.wrap (IntKind.i64.wrap (at0 w d.a + at0 w d.b) - d.col) else if inI d.op 7 10 then IntKind.i64.wrap (d.col + 1) else at0 w d.a
def fitN (d : Nd) (m : Nat) : Prop := (d.op ≠ 1 → 0 ≤ d.a ∧ d.a < m) ∧ (d.op = 4 ∨ d.op = 6 → 0 ≤ d.b ∧ d.b < m)
theorem e_width (z z' : Nat) (d : Nd) (w : List Int) (hd : d.cells.length < 4000000) (h : fitN d w.length) : oc.call 172 [d.v false z,.lst false z' (ints w)] = some (.int .i64 (widthN d w),[]) := by
 refine fun_s rfl cd172 rfl rfl rfl (by simp;rfl) (by simp;rfl) ?_
 obtain ⟨h1,h2⟩ := h
 refine wa_ (wc_region (w_ (bx (h:=w_ (a_ (h:=wo_nil (e_ (h:=aft_normal (wa_ (wc_block (wa_ (wc_region (w_ (f_ (h:=w_ (l_ (h:=?_)))))))))))))))))
 refine w_ (bE (h:=w_ (a_ (h:=wo_nil (e_ (h:=aft_normal (?_)))))))
 refine c_ (h1:=?_) (h2:=?_)
 rotate_right 1
 focus
  intro c1
  first
  | exact dn c1
  | (
   have d1 := c1;try simp at d1
   refine wa_ (wc_region (w_ (f_ (h:=w_ (l_ (h:=w_ (bE (h:=w_ (a_ (h:=wo_nil (e_ (h:=aft_normal (?_)))))))))))))
   refine c_ (h1:=?_) (h2:=?_)
   rotate_right 1
   focus
    intro c2
    first
    | exact dn c2
    | (
     have d2 := c2;try simp at d2
     refine wa_ (wc_region (w_ (f_ (h:=w_ (l_ (h:=w_ (bE (h:=w_ (a_ (h:=wo_nil (e_ (h:=aft_normal (?_)))))))))))))
     refine c_ (h1:=?_) (h2:=?_)
     rotate_right 1
     focus
      intro c3
      first
      | exact dn c3
      | (
       have d3 := c3;try simp at d3
       refine wa_ (wc_region (w_ (f_ (h:=w_ (l_ (h:=w_ (ca (hc:=e_grouped _) (h:=w_ (a_ (h:=wo_nil (e_ (h:=aft_normal (?_)))))))))))))
       refine c_ (h1:=?_) (h2:=?_)
       rotate_right 1
       focus
        intro c4
        first
        | exact dn c4
        | (
         have d4 := c4;try simp at d4
         have h3 := (h1 (by omega)).1;have h4 := (h1 (by omega)).2;have g1 := ints_ix h3 h4
         refine wc_skip (?_)
         )
       rotate_right 1
       focus
        intro c4
        first
        | exact dn c4
        | (
         have d4 := c4;try simp at d4
         refine wa_ (wc_region (w_ (f_ (h:=w_ (l_ (h:=w_ (b_ (h:=w_ (a_ (h:=wo_nil (e_ (h:=aft_normal (wc_ret (?_))))))))))))))
         )
       )
     rotate_right 1
     focus
      intro c3
      first
      | exact dn c3
      | (
       have d3 := c3;try simp at d3
       obtain ⟨h3,h4⟩ := h1 (by omega);obtain ⟨h5,h6⟩ := h2 (by omega);have g1 := ints_ix h3 h4;have g2 := ints_ix h5 h6
       refine wa_ (wc_draw (y_ (m_ (h:=ax_ (h:=y_ (f_ (h:=ax_ (h:=y_ (l_ (h:=ax_ (h:=y_ (x_ (h:=ax_ (h:=y_ (l_ (h:=ax_ (h:=y_ (m_ (h:=ax_ (h:=y_ (f_ (h:=ax_ (h:=y_ (l_ (h:=ax_ (h:=y_ (x_ (h:=ax_ (h:=y_ (l_ (h:=ax_ (h:=?_))))))))))))))))))))))))))))))))
       refine y_ (b_ (h:=ax_ (h:=y_ (f_ (h:=ax_ (h:=y_ (l_ (h:=ax_ (h:=y_ (b_ (h:=ax_ (h:=y_ (a_ (h:=ax_ (h:=wo_nil (ed (h:=aft_normal (wc_ret (?_)))))))))))))))))))
       )
     )
   rotate_right 1
   focus
    intro c2
    first
    | exact dn c2
    | (
     have d2 := c2;try simp at d2
     refine wa_ (wc_region (w_ (f_ (h:=w_ (l_ (h:=w_ (ca (hc:=e_size 0 (ints d.cells) (by simp;omega)) (h:=w_ (a_ (h:=wo_nil (e_ (h:=aft_normal (wc_ret (?_))))))))))))))
     )
   )
 rotate_right 1
 focus
  intro c1
  first
  | exact dn c1
  | (
   have d1 := c1;try simp at d1
   refine wa_ (wc_region (w_ (f_ (h:=w_ (l_ (h:=w_ (a_ (h:=wo_nil (e_ (h:=aft_normal (wc_ret (?_))))))))))))
   )
 all_goals first | refine blk_normal ?_ | refine blk_ret ?_
 all_goals first
 | refine aft_ret ?_
 | (
  refine aft_normal ?_
  refine wa_ (wc_region (w_ (m_ (h:=w_ (f_ (h:=w_ (l_ (h:=w_ (x_ (h:=w_ (l_ (h:=w_ (a_ (h:=wo_nil (e_ (h:=aft_normal (wc_ret (?_))))))))))))))))))
  )
 all_goals (refine fin_ (hr:=(res_tmp rfl res_nil)) (h:=?_);(focus (simp [widthN];grind [inI])))
def faultN (d : Nd) (w : List Int) : Int :=
  if d.op = 1 then (if inI d.col 1 3 then 0 else 3)
  else if d.op = 2 then (if inI d.col 0 (IntKind.i64.wrap (at0 w d.a - 1)) && (inI d.test 0 2 && inI d.value (-1000000000) 1000000000) then 0 else 3)
  else if d.op = 3 then (if inI d.cells.length 1 4 then (if d.cells.all fun c => inI c 0 (IntKind.i64.wrap (at0 w d.a - 1)) then 0 else 3) else 2)
  else if d.op = 4 then (if at0 w d.a = at0 w d.b then 0 else 1)
  else if d.op = 6 then (if inI d.col 1 (min (at0 w d.a) (at0 w d.b)) then (if 4 < widthN d w then 2 else 0) else 3)
  else if d.op = 7 then (if inI d.col 0 (min (at0 w d.a) 3) then 0 else 3)
  else if 8 ≤ d.op ∧ d.op ≤ 10 then (if inI d.col 0 (IntKind.i64.wrap (at0 w d.a - 1)) then 0 else 3)
  else 0
theorem l_cells (z z' : Nat) (d : Nd) (w : List Int) (hd : d.cells.length < 4000000) (h0 : 0 ≤ d.a) (h1 : d.a < w.length) : ∀ i : Nat,i ≤ d.cells.length → ∀ s,normE 2 (some [1,2,47,48,49]) s = ⟨[(1,.lst false z' (ints w)),(2,.ptr 2 0 []),(47,.lst false z (ints d.cells)),(48,.int .i64 d.cells.length),(49,.int .i64 i)],[(2,⟨true,false,7,[d.v false z],0⟩)],3⟩ →
 oc.loop 171 12 s = some (if ((d.cells.drop i).all fun c => inI c 0 (IntKind.i64.wrap (at0 w d.a - 1))) = true then (.exit 1,⟨[],[],2⟩) else (.ret,⟨[(4,.int .i64 3)],[],2⟩)) := by
 refine loop_ind (fun i => d.cells.length - i) _ (fun i => ⟨[(1,.lst false z' (ints w)),(2,.ptr 2 0 []),(47,.lst false z (ints d.cells)),(48,.int .i64 d.cells.length),(49,.int .i64 i)],[(2,⟨true,false,7,[d.v false z],0⟩)],3⟩) _ ?_
 intro i hi ih s hs
 refine loop_s cd171 rfl rfl hs ?_
 refine wa_ (wc_region (w_ (b_ (h:=wo_nil (e_ (h:=aft_normal (wa_ (?_))))))))
 refine c_ (h1:=?_) (h2:=?_)
 rotate_right 1
 focus
  intro c1
  simp at c1;have : i = d.cells.length := (by omega);subst this
  refine wc_exit (?_)
 rotate_right 1
 focus
  intro c1
  simp at c1;have hw := wrap_succ (i:=i) (by omega);obtain ⟨x,_,d1,g1⟩ := ints_cut c1;have g2 := ints_ix h0 h1
  refine wc_skip (?_)
 all_goals first
 | refine aft_exit ?_
 | (
  refine aft_normal ?_
  refine wa_ (wc_block (wa_ (wc_region (w_ (x_ (h:=w_ (l_ (h:=w_ (a_ (h:=wo_nil (e_ (h:=aft_normal (wa_ (wc_region (w_ (m_ (h:=?_)))))))))))))))))
  refine w_ (m_ (h:=w_ (f_ (h:=w_ (l_ (h:=w_ (x_ (h:=w_ (l_ (h:=w_ (b_ (h:=w_ (ca (hc:=e_in _ _ _) (h:=w_ (u_ (h:=wo_nil (e_ (h:=aft_normal (?_)))))))))))))))))))
  refine c_ (h1:=?_) (h2:=?_)
  rotate_right 1
  focus
   intro c2
   refine wc_skip (?_)
  rotate_right 1
  focus
   intro c2
   refine wa_ (wc_region (w_ (a_ (h:=wo_nil (e_ (h:=aft_normal (wc_ret (?_))))))))
  all_goals first | refine blk_normal ?_ | refine blk_ret ?_
  all_goals first
  | refine aft_ret ?_
  | (
   refine aft_normal ?_
   refine wc_region (w_ (b_ (h:=w_ (m_ (h:=wo_nil (e_ (h:=?_)))))))
   )
  )
 all_goals first
 | (refine (ih (i + 1) (by omega) ?_ _ ?_).trans ?_;(focus (first | omega | (simp;done) | (simp;omega)));(focus (simp [normE,hw];done));(focus (rw [d1];simp at c2 ⊢;grind)))
 | (apply end_leaf (ex:=Ext.ret) 2 (some [4]);(focus (simp [normE];rfl));(focus (rw [d1];simp at c2 ⊢;grind)))
 | (apply end_leaf (ex:=(Ext.exit 1)) 2 (some [4]);(focus (simp [normE];rfl));(focus (simp)))
theorem e_fault (z z' : Nat) (d : Nd) (w : List Int) (hd : d.cells.length < 4000000) (h : fitN d w.length) (ho : 1 ≤ d.op ∧ d.op ≤ 12) : oc.call 171 [d.v false z,.lst false z' (ints w)] = some (.int .i64 (faultN d w),[]) := by
 refine fun_s rfl cd171 rfl rfl rfl (by simp;rfl) (by simp;rfl) ?_
 obtain ⟨k1,k2⟩ := h
 refine wa_ (wc_region (w_ (bx (h:=w_ (a_ (h:=wo_nil (e_ (h:=aft_normal (wa_ (wa_ (wc_region (w_ (f_ (h:=w_ (l_ (h:=wo_nil (e_ (h:=?_))))))))))))))))))
 refine aft_normal (wc_block (wa_ (wc_region (w_ (bE (h:=w_ (a_ (h:=wo_nil (e_ (h:=aft_normal (?_)))))))))))
 refine c_ (h1:=?_) (h2:=?_)
 rotate_right 1
 focus
  intro c1
  first
  | exact dn c1
  | (
   have d1 := c1;try simp at d1
   refine wa_ (wc_region (w_ (bE (h:=w_ (a_ (h:=wo_nil (e_ (h:=aft_normal (?_)))))))))
   refine c_ (h1:=?_) (h2:=?_)
   rotate_right 1
   focus
    intro c2
    first
    | exact dn c2
    | (
     have d2 := c2;try simp at d2
     refine wa_ (wc_region (w_ (bE (h:=w_ (a_ (h:=wo_nil (e_ (h:=aft_normal (?_)))))))))
     refine c_ (h1:=?_) (h2:=?_)
     rotate_right 1
     focus
      intro c3
      first
      | exact dn c3
      | (
       have d3 := c3;try simp at d3
       refine wa_ (wc_region (w_ (bE (h:=w_ (a_ (h:=wo_nil (e_ (h:=aft_normal (?_)))))))))
       refine c_ (h1:=?_) (h2:=?_)
       rotate_right 1
       focus
        intro c4
        first
        | exact dn c4
        | (
         have d4 := c4;try simp at d4
         refine wa_ (wc_region (w_ (bE (h:=w_ (a_ (h:=wo_nil (e_ (h:=aft_normal (?_)))))))))
         refine c_ (h1:=?_) (h2:=?_)
         rotate_right 1
         focus
          intro c5
          first
          | exact dn c5
          | (
           have d5 := c5;try simp at d5
           refine wa_ (wc_region (w_ (bE (h:=w_ (a_ (h:=wo_nil (e_ (h:=aft_normal (?_)))))))))
           refine c_ (h1:=?_) (h2:=?_)
           rotate_right 1
           focus
            intro c6
            first
            | exact dn c6
            | (
             have d6 := c6;try simp at d6
             refine wa_ (wa_ (wc_region (w_ (bE (h:=w_ (a_ (h:=wo_nil (e_ (h:=aft_normal (?_))))))))))
             refine c_ (h1:=?_) (h2:=?_)
             rotate_right 1
             focus
              intro c7
              first
              | exact dn c7
              | (
               have d7 := c7;try simp at d7
               refine wa_ (wc_region (w_ (bE (h:=w_ (a_ (h:=wo_nil (e_ (h:=aft_normal (?_)))))))))
               refine c_ (h1:=?_) (h2:=?_)
               rotate_right 1
               focus
                intro c8
                first
                | exact dn c8
                | (
                 have d8 := c8;try simp at d8
                 refine wc_region (w_ (bE (h:=w_ (a_ (h:=wo_nil (e_ (h:=?_)))))))
                 )
               rotate_right 1
               focus
                intro c8
                first
                | exact dn c8
                | (
                 have d8 := c8;try simp at d8
                 refine wc_skip (?_)
                 )
               )
             rotate_right 1
             focus
              intro c7
              first
              | exact dn c7
              | (
               have d7 := c7;try simp at d7
               refine wc_skip (?_)
               )
             all_goals first
             | (
              refine aft_normal ?_
              refine c_ (h1:=?_) (h2:=?_)
              rotate_right 1
              focus
               intro c9
               first
               | exact dn c9
               | (
                have d9 := c9;try simp at d9
                refine wc_skip (?_)
                )
              rotate_right 1
              focus
               intro c9
               first
               | exact dn c9
               | (
                have d9 := c9;try simp at d9
                obtain ⟨h3,h4⟩ := k1 (by omega);have g1 := ints_ix h3 h4
                refine wa_ (wc_draw (y_ (f_ (h:=ax_ (h:=y_ (l_ (h:=ax_ (h:=y_ (m_ (h:=ax_ (h:=y_ (f_ (h:=ax_ (h:=y_ (l_ (h:=ax_ (h:=y_ (x_ (h:=ax_ (h:=y_ (l_ (h:=ax_ (h:=y_ (b_ (h:=ax_ (h:=y_ (ca (hc:=e_in _ _ _) (h:=ax_ (h:=y_ (u_ (h:=ax_ (h:=?_))))))))))))))))))))))))))))))))
                refine wo_nil (ed (h:=aft_normal (?_)))
                refine c_ (h1:=?_) (h2:=?_)
                rotate_right 1
                focus
                 intro c10
                 first
                 | exact dn c10
                 | (
                  have d10 := c10;try simp at d10
                  refine wc_skip (?_)
                  )
                rotate_right 1
                focus
                 intro c10
                 first
                 | exact dn c10
                 | (
                  have d10 := c10;try simp at d10
                  refine wa_ (wc_region (w_ (a_ (h:=wo_nil (e_ (h:=aft_normal (wc_ret (?_))))))))
                  )
                )
              )
             )
           rotate_right 1
           focus
            intro c6
            first
            | exact dn c6
            | (
             have d6 := c6;try simp at d6
             obtain ⟨h3,h4⟩ := k1 (by omega);have g1 := ints_ix h3 h4
             refine wa_ (wc_draw (y_ (f_ (h:=ax_ (h:=y_ (l_ (h:=ax_ (h:=y_ (m_ (h:=ax_ (h:=y_ (f_ (h:=ax_ (h:=y_ (l_ (h:=ax_ (h:=y_ (x_ (h:=ax_ (h:=y_ (l_ (h:=ax_ (h:=y_ (mi (h:=ax_ (h:=y_ (ca (hc:=e_in _ _ _) (h:=ax_ (h:=y_ (u_ (h:=ax_ (h:=?_))))))))))))))))))))))))))))))))
             refine wo_nil (ed (h:=aft_normal (?_)))
             refine c_ (h1:=?_) (h2:=?_)
             rotate_right 1
             focus
              intro c11
              first
              | exact dn c11
              | (
               have d11 := c11;try simp at d11
               refine wc_skip (?_)
               )
             rotate_right 1
             focus
              intro c11
              first
              | exact dn c11
              | (
               have d11 := c11;try simp at d11
               refine wa_ (wc_region (w_ (a_ (h:=wo_nil (e_ (h:=aft_normal (wc_ret (?_))))))))
               )
             )
           )
         rotate_right 1
         focus
          intro c5
          first
          | exact dn c5
          | (
           have d5 := c5;try simp at d5
           obtain ⟨h3,h4⟩ := k1 (by omega);have g1 := ints_ix h3 h4;obtain ⟨h5,h6⟩ := k2 (by omega);have g2 := ints_ix h5 h6
           refine wa_ (wa_ (wc_draw (y_ (f_ (h:=ax_ (h:=y_ (l_ (h:=ax_ (h:=y_ (m_ (h:=ax_ (h:=y_ (f_ (h:=ax_ (h:=y_ (l_ (h:=ax_ (h:=y_ (x_ (h:=ax_ (h:=y_ (l_ (h:=ax_ (h:=y_ (m_ (h:=ax_ (h:=y_ (f_ (h:=ax_ (h:=?_))))))))))))))))))))))))))))))
           refine y_ (l_ (h:=ax_ (h:=y_ (x_ (h:=ax_ (h:=y_ (l_ (h:=ax_ (h:=y_ (mi (h:=ax_ (h:=y_ (ca (hc:=e_in _ _ _) (h:=ax_ (h:=y_ (u_ (h:=ax_ (h:=wo_nil (ed (h:=aft_normal (?_)))))))))))))))))))))
           refine c_ (h1:=?_) (h2:=?_)
           rotate_right 1
           focus
            intro c12
            first
            | exact dn c12
            | (
             have d12 := c12;try simp at d12
             refine wc_skip (?_)
             )
           rotate_right 1
           focus
            intro c12
            first
            | exact dn c12
            | (
             have d12 := c12;try simp at d12
             refine wa_ (wc_region (w_ (a_ (h:=wo_nil (e_ (h:=aft_normal (wc_ret (?_))))))))
             )
           all_goals first
           | refine aft_ret ?_
           | (
            refine aft_normal ?_
            refine wa_ (wc_region (w_ (l_ (h:=w_ (m_ (h:=w_ (ca (hc:=e_width 0 0 d w hd ⟨k1,k2⟩) (h:=w_ (b_ (h:=wo_nil (e_ (h:=aft_normal (?_)))))))))))))
            refine c_ (h1:=?_) (h2:=?_)
            rotate_right 1
            focus
             intro c13
             first
             | exact dn c13
             | (
              have d13 := c13;try simp at d13
              refine wc_skip (?_)
              )
            rotate_right 1
            focus
             intro c13
             first
             | exact dn c13
             | (
              have d13 := c13;try simp at d13
              refine wa_ (wc_region (w_ (a_ (h:=wo_nil (e_ (h:=aft_normal (wc_ret (?_))))))))
              )
            )
           )
         )
       rotate_right 1
       focus
        intro c4
        first
        | exact dn c4
        | (
         have d4 := c4;try simp at d4
         obtain ⟨h3,h4⟩ := k1 (by omega);have g1 := ints_ix h3 h4;obtain ⟨h5,h6⟩ := k2 (by omega);have g2 := ints_ix h5 h6
         refine wa_ (wc_draw (y_ (m_ (h:=ax_ (h:=y_ (f_ (h:=ax_ (h:=y_ (l_ (h:=ax_ (h:=y_ (x_ (h:=ax_ (h:=y_ (l_ (h:=ax_ (h:=y_ (m_ (h:=ax_ (h:=y_ (f_ (h:=ax_ (h:=y_ (l_ (h:=ax_ (h:=y_ (x_ (h:=ax_ (h:=y_ (l_ (h:=ax_ (h:=?_))))))))))))))))))))))))))))))))
         refine y_ (bE (h:=ax_ (h:=wo_nil (ed (h:=aft_normal (?_))))))
         refine c_ (h1:=?_) (h2:=?_)
         rotate_right 1
         focus
          intro c14
          first
          | exact dn c14
          | (
           have d14 := c14;try simp at d14
           refine wc_skip (?_)
           )
         rotate_right 1
         focus
          intro c14
          first
          | exact dn c14
          | (
           have d14 := c14;try simp at d14
           refine wa_ (wc_region (w_ (a_ (h:=wo_nil (e_ (h:=aft_normal (wc_ret (?_))))))))
           )
         )
       )
     rotate_right 1
     focus
      intro c3
      first
      | exact dn c3
      | (
       have d3 := c3;try simp at d3
       obtain ⟨h3,h4⟩ := k1 (by omega);have g1 := ints_ix h3 h4
       refine wa_ (wa_ (wc_region (w_ (f_ (h:=w_ (l_ (h:=w_ (ca (hc:=e_size 0 (ints d.cells) (by simp;omega)) (h:=w_ (ca (hc:=e_in _ _ _) (h:=w_ (u_ (h:=wo_nil (e_ (h:=aft_normal (?_))))))))))))))))
       refine c_ (h1:=?_) (h2:=?_)
       rotate_right 1
       focus
        intro c15
        first
        | exact dn c15
        | (
         have d15 := c15;try simp at d15
         refine wc_skip (?_)
         )
       rotate_right 1
       focus
        intro c15
        first
        | exact dn c15
        | (
         have d15 := c15;try simp at d15
         refine wa_ (wc_region (w_ (a_ (h:=wo_nil (e_ (h:=aft_normal (wc_ret (?_))))))))
         )
       all_goals first
       | refine aft_ret ?_
       | (
        refine aft_normal ?_
        refine wa_ (wc_region (w_ (f_ (h:=w_ (l_ (h:=w_ (le (h:=w_ (m_ (h:=wo_nil (e_ (h:=aft_normal (wc_block (?_))))))))))))))
        refine wc_loopI (l_cells z z' d w hd h3 h4 0 (by omega) _ (by simp [normE])) ?_ ?_
        rotate_right 1
        focus
         intro c16
         first
         | exact dn c16
         | (
          have d16 := c16;try simp at d16
          skip
          )
        rotate_right 1
        focus
         intro c16
         first
         | exact dn c16
         | (
          have d16 := c16;try simp at d16
          skip
          )
        all_goals first | refine blk_ret ?_ | refine blk_exit ?_
        )
       )
     )
   rotate_right 1
   focus
    intro c2
    first
    | exact dn c2
    | (
     have d2 := c2;try simp at d2
     obtain ⟨h3,h4⟩ := k1 (by omega);have g1 := ints_ix h3 h4
     refine wa_ (wc_draw (y_ (f_ (h:=ax_ (h:=y_ (l_ (h:=ax_ (h:=y_ (m_ (h:=ax_ (h:=y_ (f_ (h:=ax_ (h:=y_ (l_ (h:=ax_ (h:=y_ (x_ (h:=ax_ (h:=y_ (l_ (h:=ax_ (h:=y_ (b_ (h:=ax_ (h:=y_ (ca (hc:=e_in _ _ _) (h:=ax_ (h:=y_ (u_ (h:=ax_ (h:=?_))))))))))))))))))))))))))))))))
     refine y_ (m_ (h:=ax_ (h:=?_)))
     refine gw_ (h1:=?_) (h2:=?_)
     rotate_right 1
     focus
      intro c17
      first
      | exact dn c17
      | (
       have d17 := c17;try simp at d17
       refine gd_ (h:=gd_ (h:=gd_ (h:=gd_ (h:=?_))))
       )
     rotate_right 1
     focus
      intro c17
      first
      | exact dn c17
      | (
       have d17 := c17;try simp at d17
       refine g_ (h:=y_ (f_ (h:=ax_ (h:=g_ (h:=y_ (l_ (h:=ax_ (h:=g_ (h:=y_ (ca (hc:=e_in _ _ _) (h:=ax_ (h:=g_ (h:=y_ (u_ (h:=ax_ (h:=?_))))))))))))))))
       )
     all_goals
      refine y_ (pk (h:=ax_ (h:=y_ (m_ (h:=ax_ (h:=?_))))))
      refine gw_ (h1:=?_) (h2:=?_)
      rotate_right 1
      focus
       intro c18
       first
       | exact dn c18
       | (
        have d18 := c18;try simp at d18
        refine gd_ (h:=gd_ (h:=gd_ (h:=gd_ (h:=?_))))
        )
      rotate_right 1
      focus
       intro c18
       first
       | exact dn c18
       | (
        have d18 := c18;try simp at d18
        refine g_ (h:=y_ (f_ (h:=ax_ (h:=g_ (h:=y_ (l_ (h:=ax_ (h:=g_ (h:=y_ (ca (hc:=e_in _ _ _) (h:=ax_ (h:=g_ (h:=y_ (u_ (h:=ax_ (h:=?_))))))))))))))))
        )
      all_goals
       refine y_ (pk (h:=ax_ (h:=wo_nil (ed (h:=?_)))))
     all_goals first
     | (
      refine aft_normal ?_
      refine c_ (h1:=?_) (h2:=?_)
      rotate_right 1
      focus
       intro c19
       first
       | exact dn c19
       | (
        have d19 := c19;try simp at d19
        refine wc_skip (?_)
        )
      rotate_right 1
      focus
       intro c19
       first
       | exact dn c19
       | (
        have d19 := c19;try simp at d19
        refine wa_ (wc_region (w_ (a_ (h:=wo_nil (e_ (h:=aft_normal (wc_ret (?_))))))))
        )
      )
     )
   )
 rotate_right 1
 focus
  intro c1
  first
  | exact dn c1
  | (
   have d1 := c1;try simp at d1
   refine wa_ (wc_region (w_ (f_ (h:=w_ (l_ (h:=w_ (ca (hc:=e_in _ _ _) (h:=w_ (u_ (h:=wo_nil (e_ (h:=aft_normal (?_)))))))))))))
   refine c_ (h1:=?_) (h2:=?_)
   rotate_right 1
   focus
    intro c20
    first
    | exact dn c20
    | (
     have d20 := c20;try simp at d20
     refine wc_skip (?_)
     )
   rotate_right 1
   focus
    intro c20
    first
    | exact dn c20
    | (
     have d20 := c20;try simp at d20
     refine wa_ (wc_region (w_ (a_ (h:=wo_nil (e_ (h:=aft_normal (wc_ret (?_))))))))
     )
   )
 all_goals first | refine blk_normal ?_ | refine blk_ret ?_
 all_goals first
 | refine aft_ret ?_
 | (
  refine aft_normal ?_
  refine wa_ (wc_region (w_ (a_ (h:=wo_nil (e_ (h:=aft_normal (wc_ret (?_))))))))
  )
 all_goals (refine fin_ (hr:=(res_tmp rfl res_nil)) (h:=?_);(focus (simp [faultN];grind)))
def opAt (l : List Nd) (a : Int) : Int := (l[a.toNat]?).elim 0 Nd.op
theorem nds_ix {t : Bool} {s : Nat} {l : List Nd} {a : Int} (h0 : 0 ≤ a) (h : a < l.length) : ∃ d,(nds t s l)[a.toNat]? = some (Nd.v t s d) ∧ opAt l a = Nd.op d := by
  have : a.toNat < l.length := by omega
  exact ⟨l[a.toNat],by simp [nds,this],by simp [opAt,this]⟩
def okR (pl : List Nd) (i : Nat) (k : Int) : Bool := inI k 0 (IntKind.i64.wrap ((i : Int) - 1)) && !decide (opAt pl k = 12)
theorem l_reads (pl : List Nd) (out rs : List Int) (d : Nd) (i : Nat) (hp : pl.length < 2000000) (hi : i ≤ pl.length) (hr : rs.length < 10) : ∀ j : Nat,j ≤ rs.length → ∀ s,normE 1 (some [0,4,5,6,15,16,17,34,35,36]) s = ⟨[(0,.lst false 0 (nds false 0 pl)),(4,.ref 1 0 out.length),(5,.int .i64 i),(6,.ptr 2 0 []),(15,.lst false 0 (nds false 0 pl)),(16,.int .i64 pl.length),(17,.int .i64 i),(34,.ref 3 0 rs.length),(35,.int .i64 rs.length),(36,.int .i64 j)],[(1,⟨false,false,1,ints out,0⟩),(2,⟨true,false,7,[d.v false 0],0⟩),(3,⟨false,false,1,ints rs,0⟩)],4⟩ →
 oc.loop 90 12 s = some (if (rs.drop j).all (okR pl i) = true then (.exit 3,⟨[(0,.lst false 0 (nds false 0 pl)),(4,.ref 1 0 out.length),(6,.ptr 2 0 []),(15,.lst false 0 (nds false 0 pl)),(16,.int .i64 pl.length),(17,.int .i64 i)],[(1,⟨false,false,1,ints out,0⟩),(2,⟨true,false,7,[d.v false 0],0⟩)],3⟩)
  else (.ret,⟨[(0,.lst false 0 (nds false 0 pl)),(2,.lst true 1 []),(3,.int .i64 3),(4,.ref 1 0 out.length),(6,.ptr 2 0 []),(15,.lst false 0 (nds false 0 pl)),(16,.int .i64 pl.length),(17,.int .i64 i)],[(1,⟨false,false,1,ints out,0⟩),(2,⟨true,false,7,[d.v false 0],0⟩)],3⟩)) := by
 refine loop_ind (fun j => rs.length - j) _ (fun j => ⟨[(0,.lst false 0 (nds false 0 pl)),(4,.ref 1 0 out.length),(5,.int .i64 i),(6,.ptr 2 0 []),(15,.lst false 0 (nds false 0 pl)),(16,.int .i64 pl.length),(17,.int .i64 i),(34,.ref 3 0 rs.length),(35,.int .i64 rs.length),(36,.int .i64 j)],[(1,⟨false,false,1,ints out,0⟩),(2,⟨true,false,7,[d.v false 0],0⟩),(3,⟨false,false,1,ints rs,0⟩)],4⟩) _ ?_
 intro j hj ih s hs
 have hw2 : IntKind.i64.wrap ((i : Int) - 1) = i - 1 := wrap_id (by omega) (by omega)
 refine loop_s cd90 rfl rfl hs ?_
 refine wa_ (wc_region (w_ (b_ (h:=wo_nil (e_ (h:=aft_normal (wa_ (?_))))))))
 refine c_ (h1:=?_) (h2:=?_)
 rotate_right 1
 focus
  intro c1
  first
  | exact dn c1
  | (
   have d1 := c1;try simp at d1
   have : j = rs.length := (by omega);subst this
   refine wc_exit (?_)
   )
 rotate_right 1
 focus
  intro c1
  first
  | exact dn c1
  | (
   have d1 := c1;try simp at d1
   have hw := wrap_succ (i:=j) (by omega);obtain ⟨x,_,e1,g1⟩ := ints_cut (l:=rs) (i:=j) (by omega);simp at g1
   refine wc_skip (?_)
   )
 all_goals first
 | refine aft_exit ?_
 | (
  refine aft_normal ?_
  refine wa_ (wc_block (wa_ (wc_region (w_ (x_ (h:=w_ (l_ (h:=w_ (a_ (h:=wo_nil (e_ (h:=aft_normal (wa_ (wc_region (w_ (m_ (h:=?_)))))))))))))))))
  refine w_ (m_ (h:=w_ (b_ (h:=w_ (ca (hc:=e_in _ _ _) (h:=w_ (u_ (h:=w_ (m_ (h:=?_))))))))))
  refine gw_ (h1:=?_) (h2:=?_)
  rotate_right 1
  focus
   intro c2
   first
   | exact dn c2
   | (
    have d2 := c2;try simp at d2
    refine go_ (h:=go_ (h:=go_ (h:=go_ (h:=go_ (h:=go_ (h:=?_))))))
    )
  rotate_right 1
  focus
   intro c2
   first
   | exact dn c2
   | (
    have d2 := c2;try simp at d2
    simp [inI,hw2] at d2;obtain ⟨h3,h4⟩ := d2;obtain ⟨e,g2,g3⟩ := nds_ix (t:=false) (s:=0) (l:=pl) h3 (by omega)
    refine g_ (h:=w_ (m_ (h:=g_ (h:=w_ (m_ (h:=g_ (h:=w_ (x_ (h:=g_ (h:=w_ (f_ (h:=g_ (h:=w_ (l_ (h:=g_ (h:=w_ (bE (h:=?_))))))))))))))))))
    )
  all_goals
   refine w_ (pk (h:=wo_nil (e_ (h:=?_))))
  all_goals first
  | (
   refine aft_normal ?_
   refine c_ (h1:=?_) (h2:=?_)
   rotate_right 1
   focus
    intro c3
    first
    | exact dn c3
    | (
     have d3 := c3;try simp at d3
     refine wc_skip (?_)
     )
   rotate_right 1
   focus
    intro c3
    first
    | exact dn c3
    | (
     have d3 := c3;try simp at d3
     refine wa_ (wc_region (w_ (aN (h:=w_ (a_ (h:=wo_nil (e_ (h:=aft_normal (wc_ret (?_))))))))))
     )
   )
  all_goals first | refine blk_normal ?_ | refine blk_ret ?_
  all_goals first
  | refine aft_ret ?_
  | (
   refine aft_normal ?_
   refine wc_region (w_ (b_ (h:=w_ (m_ (h:=wo_nil (e_ (h:=?_)))))))
   )
  )
 all_goals first
 | (refine (ih (j + 1) (by omega) ?_ _ ?_).trans ?_;(focus (first | omega | (simp;done) | (simp;omega)));(focus (simp [normE,hw];done));(focus (rw [e1];simp [okR] at *;grind)))
 | (apply end_leaf (ex:=Ext.ret) 1 (some [0,2,3,4,6,15,16,17]);(focus (simp [normE];rfl));(focus (rw [e1];simp [okR] at *;grind)))
 | (apply end_leaf (ex:=(Ext.exit 3)) 1 (some [0,2,3,4,6,15,16,17]);(focus (simp [normE];rfl));(focus (simp)))
theorem fit_of {pl : List Nd} {d : Nd} {i : Nat} (hi : i < 2000000) (h : (readsN d).all (okR pl i) = true) : fitN d i := by
  have hw2 : IntKind.i64.wrap ((i : Int) - 1) = i - 1 := wrap_id (by omega) (by omega)
  have key : ∀ k ∈ readsN d,0 ≤ k ∧ k < i := by
    intro k hk
    have := List.all_eq_true.mp h k hk
    simp [okR,inI,hw2] at this
    omega
  unfold readsN at key
  constructor
  · intro h1
    rw [if_neg h1] at key
    split at key <;> exact key _ (by simp)
  · intro h1
    rw [if_neg (by omega),if_pos h1] at key
    exact key _ (by simp)
theorem plain_len (d : Nd) : (plainN d).cells.length ≤ d.cells.length := by
  simp only [plainN]
  split <;> simp
def stepC (pl : List Nd) (d : Nd) (out : List Int) : Int :=
  if inI d.op 1 12 = false then 5 else if d ≠ plainN d then 1 else if (readsN d).all (okR pl out.length) = false then 3 else faultN d out
def lookR (pl : List Nd) : List Nd → List Int → List Int × Int
  | [],out => (out,0)
  | d :: r,out => if stepC pl d out = 0 then lookR pl r (out ++ [widthN d out]) else (out,stepC pl d out)
def lookE (q : List Int × Int) : Ext × St :=
  if q.2 = 0 then (.exit 0,⟨[(4,.ref 1 0 q.1.length)],[(1,⟨false,false,1,ints q.1,0⟩)],2⟩) else (.ret,⟨[(2,.lst true 1 []),(3,.int .i64 q.2),(4,.ref 1 0 q.1.length)],[(1,⟨false,false,1,ints q.1,0⟩)],2⟩)
theorem look_stop {pl r : List Nd} {d : Nd} {out : List Int} {i : Nat} {c : Int} (e : pl.drop i = d :: r) (h : stepC pl d out = c) (hc : c ≠ 0) : lookE (lookR pl (pl.drop i) out) = (.ret,⟨[(2,.lst true 1 []),(3,.int .i64 c),(4,.ref 1 0 out.length)],[(1,⟨false,false,1,ints out,0⟩)],2⟩) := by
  subst h
  rw [e,lookR,if_neg hc,lookE,if_neg hc]
theorem look_go {pl r : List Nd} {d : Nd} {out : List Int} {i : Nat} (e : pl.drop i = d :: r) (h : stepC pl d out = 0) : lookR pl (pl.drop i) out = lookR pl r (out ++ [widthN d out]) := by
  rw [e,lookR,if_pos h]
theorem l_look (pl : List Nd) (hp : pl.length < 2000000) (hk : okN pl) : ∀ out : List Int,out.length ≤ pl.length → ∀ s,normE 1 (some [0,4,15,16,17]) s = ⟨[(0,.lst false 0 (nds false 0 pl)),(4,.ref 1 0 out.length),(15,.lst false 0 (nds false 0 pl)),(16,.int .i64 pl.length),(17,.int .i64 out.length)],[(1,⟨false,false,1,ints out,0⟩)],2⟩ →
 oc.loop 90 5 s = some (lookE (lookR pl (pl.drop out.length) out)) := by
 refine loop_ind (fun out => pl.length - out.length) _ (fun out => ⟨[(0,.lst false 0 (nds false 0 pl)),(4,.ref 1 0 out.length),(15,.lst false 0 (nds false 0 pl)),(16,.int .i64 pl.length),(17,.int .i64 out.length)],[(1,⟨false,false,1,ints out,0⟩)],2⟩) _ ?_
 intro out hi ih s hs
 refine loop_s cd90 rfl rfl hs ?_
 refine wa_ (wc_region (w_ (b_ (h:=wo_nil (e_ (h:=aft_normal (wa_ (?_))))))))
 refine c_ (h1:=?_) (h2:=?_)
 rotate_right 1
 focus
  intro c1
  first
  | exact dn c1
  | (
   have d1 := c1;try simp at d1
   have hn : pl.length = out.length := (by omega)
   refine wc_exit (?_)
   )
 rotate_right 1
 focus
  intro c1
  first
  | exact dn c1
  | (
   have d1 := c1;try simp at d1
   have hw := wrap_succ (i:=out.length) (by omega);obtain ⟨d,hx,e1,g1⟩ := nds_cut (t:=false) (s:=0) (l:=pl) (i:=out.length) (by omega);simp at g1;have hd := hk d (List.mem_of_getElem? hx);by_cases h3 : d.op = 3
   all_goals
    refine wc_skip (?_)
   )
 all_goals first
 | refine aft_exit ?_
 | (
  refine aft_normal ?_
  refine wa_ (wc_block (wa_ (wc_region (w_ (m_ (h:=w_ (x_ (h:=w_ (l_ (h:=w_ (al (h:=w_ (a_ (h:=w0 (s_ (h:=wo_nil (e_ (h:=aft_normal (?_)))))))))))))))))))
  refine wa_ (wc_block (wa_ (wc_region (w_ (f_ (h:=w_ (l_ (h:=w_ (ca (hc:=e_in _ _ _) (h:=w_ (u_ (h:=w_ (a_ (h:=wo_nil (e_ (h:=aft_normal (?_)))))))))))))))))
  refine c_ (h1:=?_) (h2:=?_)
  rotate_right 1
  focus
   intro c2
   first
   | exact dn c2
   | (
    have d2 := c2;try simp at d2
    refine wa_ (wc_draw (y_ (l_ (h:=ax_ (h:=y_ (l_ (h:=ax_ (h:=?_))))))))
    first | refine y_ (ca (hc:=e_plain3 0 d h3) (h:=?_)) | refine y_ (ca (hc:=e_plain 0 d h3) (h:=?_))
    refine ax_ (h:=y_ (ca (hc:=e_same 0 0 d (plainN d) (by omega) (by have := plain_len d;omega)) (h:=ax_ (h:=y_ (u_ (h:=ax_ (h:=y_ (a_ (h:=ax_ (h:=wo_nil (ed (h:=aft_normal (?_)))))))))))))
    refine c_ (h1:=?_) (h2:=?_)
    rotate_right 1
    focus
     intro c3
     first
     | exact dn c3
     | (
      have d3 := c3;try simp at d3
      refine wc_skip (?_)
      )
    rotate_right 1
    focus
     intro c3
     first
     | exact dn c3
     | (
      have d3 := c3;try simp at d3
      refine wa_ (wc_region (w_ (aN (h:=w_ (a_ (h:=wo_nil (e_ (h:=aft_normal (wc_ret (?_))))))))))
      )
    )
  rotate_right 1
  focus
   intro c2
   first
   | exact dn c2
   | (
    have d2 := c2;try simp at d2
    refine wa_ (wc_region (w_ (aN (h:=w_ (a_ (h:=wo_nil (e_ (h:=aft_normal (wc_ret (?_))))))))))
    )
  all_goals first | refine blk_normal ?_ | refine blk_ret ?_
  all_goals first
  | refine aft_ret ?_
  | (
   refine aft_normal ?_
   refine wa_ (wa_ (wc_region (w_ (l_ (h:=w_ (ca (hc:=e_reads 0 d) (h:=w_ (le (h:=w_ (m_ (h:=wo_nil (e_ (h:=aft_normal (wc_block (?_)))))))))))))))
   refine wc_loopI (l_reads pl out (readsN d) d out.length (by omega) (by omega) (by unfold readsN;split;simp;split <;> simp) 0 (by omega) _ (by simp [normE])) ?_ ?_
   rotate_right 1
   focus
    intro c4
    first
    | exact dn c4
    | (
     have d4 := c4;try simp at d4
     have d4' : (readsN d).all (okR pl out.length) = false := (by simpa using c4)
     skip
     )
   rotate_right 1
   focus
    intro c4
    first
    | exact dn c4
    | (
     have d4 := c4;try simp at d4
     have d4' : (readsN d).all (okR pl out.length) = true := (by simpa using c4);have hf := fit_of (i:=out.length) (by omega) (by simpa using c4)
     skip
     )
   all_goals first | refine blk_ret ?_ | refine blk_exit ?_
   all_goals first
   | refine aft_ret ?_
   | (
    refine aft_normal ?_
    refine wa_ (wa_ (wc_region (w_ (l_ (h:=w_ (m_ (h:=w_ (ca (hc:=e_fault 0 0 d out (by omega) hf (by simp [inI] at d2;omega)) (h:=w_ (a_ (h:=wo_nil (e_ (h:=aft_normal (wa_ (wc_region (w_ (m_ (h:=?_))))))))))))))))))
    refine w_ (bE (h:=wo_nil (e_ (h:=aft_normal (?_)))))
    refine c_ (h1:=?_) (h2:=?_)
    rotate_right 1
    focus
     intro c5
     first
     | exact dn c5
     | (
      have d5 := c5;try simp at d5
      refine wc_skip (?_)
      )
    rotate_right 1
    focus
     intro c5
     first
     | exact dn c5
     | (
      have d5 := c5;try simp at d5
      refine wa_ (wc_region (w_ (m_ (h:=w_ (aN (h:=w_ (a_ (h:=wo_nil (e_ (h:=aft_normal (wc_ret (?_))))))))))))
      )
    all_goals first
    | refine aft_ret ?_
    | (
     refine aft_normal ?_
     refine wc_region (w_ (m_ (h:=w_ (l_ (h:=w_ (m_ (h:=w_ (ca (hc:=e_width 0 0 d out (by omega) hf) (h:=w_ (bs (h:=w_ (ap (h:=w_ (a_ (h:=wo_nil (e_ (h:=?_)))))))))))))))))
     )
    )
   )
  all_goals first | refine blk_normal ?_ | refine blk_ret ?_
  all_goals first
  | refine aft_ret ?_
  | (
   refine aft_normal ?_
   refine wc_region (w_ (b_ (h:=w_ (m_ (h:=wo_nil (e_ (h:=?_)))))))
   )
  )
 all_goals first
 | (refine (ih (out ++ [widthN d out]) (by simp;omega) ?_ _ ?_).trans ?_;(focus (first | omega | (simp;done) | (simp;omega)));(focus (simp [normE,hw];done));(focus (rw [look_go e1 (by grind [stepC])];simp)))
 | (apply end_leaf (ex:=Ext.ret) 1 (some [2,3,4]);(focus (simp [normE];rfl));(focus (exact (look_stop e1 (c:=5) (by grind [stepC]) (by decide)).symm)))
 | (apply end_leaf (ex:=Ext.ret) 1 (some [2,3,4]);(focus (simp [normE];rfl));(focus (exact (look_stop e1 (c:=1) (by grind [stepC]) (by decide)).symm)))
 | (apply end_leaf (ex:=Ext.ret) 1 (some [2,3,4]);(focus (simp [normE];rfl));(focus (exact (look_stop e1 (c:=3) (by grind [stepC]) (by decide)).symm)))
 | (apply end_leaf (ex:=Ext.ret) 1 (some [2,3,4]);(focus (simp [normE];rfl));(focus (exact (look_stop e1 (c:=faultN d out) (by grind [stepC]) (by omega)).symm)))
 | (apply end_leaf (ex:=(Ext.exit 0)) 1 (some [2,3,4]);(focus (simp [normE];rfl));(focus (rw [List.drop_eq_nil_of_le (by omega)];simp [lookR,lookE])))
def lookN (pl : List Nd) : List Int × Int :=
  if inI pl.length 1 8 = false then ([],2) else if (lookR pl pl []).2 = 0 then lookR pl pl [] else ([],(lookR pl pl []).2)
theorem e_looked (pl : List Nd) (hp : pl.length < 2000000) (hk : okN pl) : oc.call 90 [.lst false 0 (nds false 0 pl)] = some (.tup [.lst true 1 (ints (lookN pl).1),.int .i64 (lookN pl).2],[]) := by
 refine fun_s rfl cd90 rfl rfl rfl (by simp;rfl) (by simp;rfl) ?_
 refine wa_ (wc_region (w_ (aN (h:=w_ (a_ (h:=wo_nil (e_ (h:=aft_normal (wa_ (wa_ (wc_region (w_ (m_ (h:=w_ (ca (hc:=e_sizeN _ _ (by simp;omega)) (h:=w_ (ca (hc:=e_in _ _ _) (h:=?_))))))))))))))))))
 refine w_ (u_ (h:=wo_nil (e_ (h:=aft_normal (?_)))))
 refine c_ (h1:=?_) (h2:=?_)
 rotate_right 1
 focus
  intro c1
  refine wc_skip (?_)
 rotate_right 1
 focus
  intro c1
  refine wa_ (wc_region (w_ (aN (h:=w_ (a_ (h:=wo_nil (e_ (h:=aft_normal (wc_ret (?_))))))))))
 all_goals first
 | refine aft_ret ?_
 | (
  refine aft_normal ?_
  refine wa_ (wc_region (w_ (bs (h:=w_ (a_ (h:=wo_nil (e_ (h:=aft_normal (wa_ (wa_ (wc_region (w_ (m_ (h:=w_ (le (h:=w_ (m_ (h:=?_))))))))))))))))))
  refine wo_nil (e_ (h:=aft_normal (wc_block (?_))))
  refine wc_loopI ((l_look pl hp hk [] (by simp) _ (by simp [normE])).trans (by rw [lookE])) ?_ ?_
  rotate_right 1
  focus
   intro c2
   skip
  rotate_right 1
  focus
   intro c2
   skip
  all_goals first | refine blk_ret ?_ | refine blk_exit ?_
  all_goals first
  | refine aft_ret ?_
  | (
   refine aft_normal ?_
   refine wa_ (wc_region (w_ (m_ (h:=w_ (a_ (h:=w_ (a_ (h:=wo_nil (e_ (h:=aft_normal (wc_ret (?_))))))))))))
   )
  )
 all_goals (refine fin_ (hr:=(res_tmp rfl (res_tmp rfl res_nil))) (h:=?_);(focus (simp_all [lookN])))
theorem e_planI (pl : List Nd) (hp : pl.length < 2000000) (hk : okN pl) : oc.call 25 [.lst false 0 (nds false 0 pl)] = some (.int .i64 (lookN pl).2,[]) := by
 refine fun_s rfl cd25 rfl rfl rfl (by simp;rfl) (by simp;rfl) ?_
 refine wa_ (wc_region (w_ (a_ (h:=wo_nil (e_ (h:=aft_normal (wa_ (wc_region (w_ (m_ (h:=w_ (ca (hc:=e_looked pl hp hk) (h:=w_ (m_ (h:=w_ (ex (h:=w_ (ex (h:=?_)))))))))))))))))))
 refine w_ (a_ (h:=w_ (a_ (h:=wo_nil (e_ (h:=aft_normal (wa_ (wc_region (w_ (m_ (h:=w_ (a_ (h:=wo_nil (e_ (h:=aft_normal (wc_ret (?_)))))))))))))))))
 all_goals (refine fin_ (hr:=(res_tmp rfl res_nil)) (h:=?_);(focus (first | (simp_all;done) | (simp_all <;> omega) | (simp_all <;> split <;> simp_all <;> omega))))
end Go.Proofs.Ytgkbmiaimjpbfaa.Ev
namespace Go.Proofs.Ytgkbmiaimjpbfaa.Ev
open Go
set_option maxRecDepth 100000
set_option linter.unusedSimpArgs false
set_option linter.unusedVariables false
set_option maxHeartbeats 2000000
def Good (pl : List Nd) (ws : List Int) : Prop := ∀ n : Nat,n < ws.length → ∃ d,pl[n]? = some d ∧ at0 ws n = widthN d (ws.take n) ∧ fitN d n ∧ d.cells.length < 2000000
theorem at0_take {ws : List Int} {n : Nat} {a : Int} (h : a.toNat < n) : at0 (ws.take n) a = at0 ws a := by
  simp only [at0,List.getD_eq_getElem?_getD,List.getElem?_take,if_pos h]
theorem e_l3Width (pl : List Nd) (ws : List Int) (hp : pl.length < 2000000) (G : Good pl ws) : ∀ n : Nat,n < ws.length → oc.call 162 [.lst false 0 (nds false 0 pl),.int .i64 n] = some (.int .i64 (at0 ws n),[]) := by
  intro n
  induction n using Nat.strongRecOn with
  | ind n ih =>
    intro hn
    obtain ⟨d,hx,hv,⟨h1,h2⟩,hd⟩ := G n hn
    have hrec : ∀ a : Int,0 ≤ a → a < n → oc.call 162 [.lst false 0 (nds false 0 pl),.int .i64 a] = some (.int .i64 (at0 (ws.take n) a),[]) := by
      intro a h3 h4
      have := ih a.toNat (by omega) (by omega)
      rw [at0_take (by omega)]
      rw [Int.toNat_of_nonneg h3] at this
      exact this
    have g1 : (nds false 0 pl)[(n : Int).toNat]? = some (d.v false 0) := nds_get (by simpa using hx)
    rw [hv]
    refine fun_s rfl cd162 rfl rfl rfl (by simp;rfl) (by simp;rfl) ?_
    refine wa_ (wc_region (w_ (a_ (h:=wo_nil (e_ (h:=aft_normal (wa_ (wc_region (w_ (m_ (h:=w_ (m_ (h:=w_ (x_ (h:=w_ (l_ (h:=w_ (al (h:=?_)))))))))))))))))))
    refine w0 (s_ (h:=wo_nil (e_ (h:=aft_normal (wa_ (wa_ (wc_region (w_ (f_ (h:=w_ (l_ (h:=wo_nil (e_ (h:=aft_normal (wc_block (wa_ (?_)))))))))))))))))
    refine wc_region (w_ (bE (h:=w_ (a_ (h:=wo_nil (e_ (h:=aft_normal (?_))))))))
    refine c_ (h1:=?_) (h2:=?_)
    rotate_right 1
    focus
     intro c1
     first
     | exact dn c1
     | (have d1 := c1;try simp at d1
        refine wa_ (wc_region (w_ (bE (h:=w_ (a_ (h:=wo_nil (e_ (h:=aft_normal (?_)))))))))
        refine c_ (h1:=?_) (h2:=?_)
        rotate_right 1
        focus
         intro c2
         first
         | exact dn c2
         | (have d2 := c2;try simp at d2
            refine wa_ (wc_region (w_ (bE (h:=w_ (a_ (h:=wo_nil (e_ (h:=aft_normal (?_)))))))))
            refine c_ (h1:=?_) (h2:=?_)
            rotate_right 1
            focus
             intro c3
             first
             | exact dn c3
             | (have d3 := c3;try simp at d3
                refine wa_ (wa_ (wc_region (w_ (bE (h:=w_ (a_ (h:=wo_nil (e_ (h:=aft_normal (?_))))))))))
                refine c_ (h1:=?_) (h2:=?_)
                rotate_right 1
                focus
                 intro c4
                 first
                 | exact dn c4
                 | (have d4 := c4;try simp at d4
                    refine wa_ (wc_region (w_ (bE (h:=w_ (a_ (h:=wo_nil (e_ (h:=aft_normal (?_)))))))))
                    refine c_ (h1:=?_) (h2:=?_)
                    rotate_right 1
                    focus
                     intro c5
                     first
                     | exact dn c5
                     | (have d5 := c5;try simp at d5
                        refine wa_ (wc_region (w_ (bE (h:=w_ (a_ (h:=wo_nil (e_ (h:=aft_normal (?_)))))))))
                        refine c_ (h1:=?_) (h2:=?_)
                        rotate_right 1
                        focus
                         intro c6
                         first
                         | exact dn c6
                         | (have d6 := c6;try simp at d6
                            refine wc_region (w_ (bE (h:=w_ (a_ (h:=wo_nil (e_ (h:=?_)))))))
                            )
                        rotate_right 1
                        focus
                         intro c6
                         first
                         | exact dn c6
                         | (have d6 := c6;try simp at d6
                            refine wc_skip (?_)
                            )
                        )
                    rotate_right 1
                    focus
                     intro c5
                     first
                     | exact dn c5
                     | (have d5 := c5;try simp at d5
                        refine wc_skip (?_)
                        )
                    )
                rotate_right 1
                focus
                 intro c4
                 first
                 | exact dn c4
                 | (have d4 := c4;try simp at d4
                    refine wc_skip (?_)
                    )
                all_goals first
                | (refine aft_normal ?_
                   refine c_ (h1:=?_) (h2:=?_)
                   rotate_right 1
                   focus
                    intro c7
                    first
                    | exact dn c7
                    | (have d7 := c7;try simp at d7
                       obtain ⟨h3,h4⟩ := h1 (by omega)
                       refine wc_skip (?_)
                       )
                   rotate_right 1
                   focus
                    intro c7
                    first
                    | exact dn c7
                    | (have d7 := c7;try simp at d7
                       refine wa_ (wc_region (w_ (f_ (h:=w_ (l_ (h:=w_ (b_ (h:=w_ (a_ (h:=wo_nil (e_ (h:=aft_normal (wc_ret (?_))))))))))))))
                       )
                   )
                )
            rotate_right 1
            focus
             intro c3
             first
             | exact dn c3
             | (have d3 := c3;try simp at d3
                obtain ⟨h3,h4⟩ := h1 (by omega);obtain ⟨h5,h6⟩ := h2 (by omega)
                refine wa_ (wc_draw (y_ (m_ (h:=ax_ (h:=y_ (f_ (h:=ax_ (h:=y_ (l_ (h:=ax_ (h:=y_ (ca (hc:=hrec _ h3 h4) (h:=ax_ (h:=y_ (m_ (h:=ax_ (h:=y_ (f_ (h:=ax_ (h:=y_ (l_ (h:=ax_ (h:=y_ (ca (hc:=hrec _ h5 h6) (h:=ax_ (h:=y_ (b_ (h:=ax_ (h:=y_ (f_ (h:=ax_ (h:=?_))))))))))))))))))))))))))))))))
                refine y_ (l_ (h:=ax_ (h:=y_ (b_ (h:=ax_ (h:=y_ (a_ (h:=ax_ (h:=wo_nil (ed (h:=aft_normal (wc_ret (?_)))))))))))))
                )
            )
        rotate_right 1
        focus
         intro c2
         first
         | exact dn c2
         | (have d2 := c2;try simp at d2
            refine wa_ (wc_region (w_ (f_ (h:=w_ (l_ (h:=w_ (le (h:=w_ (a_ (h:=wo_nil (e_ (h:=aft_normal (wc_ret (?_))))))))))))))
            )
        )
    rotate_right 1
    focus
     intro c1
     first
     | exact dn c1
     | (have d1 := c1;try simp at d1
        refine wa_ (wc_region (w_ (f_ (h:=w_ (l_ (h:=w_ (a_ (h:=wo_nil (e_ (h:=aft_normal (wc_ret (?_))))))))))))
        )
    all_goals first | refine blk_normal ?_ | refine blk_ret ?_
    all_goals first
    | refine aft_ret ?_
    | (refine aft_normal ?_
       refine wa_ (wc_region (w_ (m_ (h:=w_ (f_ (h:=w_ (l_ (h:=w_ (ca (hc:=hrec _ h3 h4) (h:=w_ (a_ (h:=wo_nil (e_ (h:=aft_normal (wc_ret (?_))))))))))))))))
       )
    all_goals (refine fin_ (hr:=(res_tmp rfl res_nil)) (h:=?_);(focus (clear ih hrec hv G;simp [widthN];grind [inI])))
theorem e_l3Named (d : Nd) (hd : d.cells.length < 2000000) (ho : 1 ≤ d.op ∧ d.op ≤ 12) : oc.call 160 [d.v false 0] = some (.bool (decide (d = plainN d)),[]) := by
 refine fun_s rfl cd160 rfl rfl rfl (by simp;rfl) (by simp;rfl) ?_
 refine wa_ (wc_region (w_ (bx (h:=w_ (a_ (h:=wo_nil (e_ (h:=aft_normal (wa_ (wa_ (wc_region (w_ (f_ (h:=w_ (l_ (h:=w_ (ca (hc:=e_l3Reads _) (h:=?_))))))))))))))))))
 refine w_ (b_ (h:=w_ (m_ (h:=?_))))
 refine gw_ (h1:=?_) (h2:=?_)
 rotate_right 1
 focus
  intro c1
  first
  | exact dn c1
  | (
   have d1 := c1;try simp at d1
   refine go_ (h:=go_ (h:=go_ (h:=?_)))
   )
 rotate_right 1
 focus
  intro c1
  first
  | exact dn c1
  | (
   have d1 := c1;try simp at d1
   refine g_ (h:=w_ (f_ (h:=g_ (h:=w_ (l_ (h:=g_ (h:=w_ (bE (h:=?_)))))))))
   )
 all_goals
  refine w_ (pk (h:=w_ (m_ (h:=?_))))
  refine gw_ (h1:=?_) (h2:=?_)
  rotate_right 1
  focus
   intro c2
   first
   | exact dn c2
   | (
    have d2 := c2;try simp at d2
    refine go_ (h:=go_ (h:=go_ (h:=go_ (h:=go_ (h:=?_)))))
    )
  rotate_right 1
  focus
   intro c2
   first
   | exact dn c2
   | (
    have d2 := c2;try simp at d2
    refine g_ (h:=w_ (f_ (h:=g_ (h:=w_ (l_ (h:=g_ (h:=w_ (ca (hc:=e_l3Reads _) (h:=g_ (h:=w_ (b_ (h:=g_ (h:=w_ (m_ (h:=?_)))))))))))))))
    )
  all_goals
   first
   | (
    skip
    refine goN (h:=goN (h:=goN (h:=?_)))
    )
   | (
    refine gw_ (h1:=?_) (h2:=?_)
    rotate_right 1
    focus
     intro c3
     first
     | exact dn c3
     | (
      have d3 := c3;try simp at d3
      refine go_ (h:=go_ (h:=go_ (h:=?_)))
      )
    rotate_right 1
    focus
     intro c3
     first
     | exact dn c3
     | (
      have d3 := c3;try simp at d3
      refine g_ (h:=w_ (f_ (h:=g_ (h:=w_ (l_ (h:=g_ (h:=w_ (bE (h:=?_)))))))))
      )
    )
   all_goals
    first
    | (
     skip
     refine g_ (h:=w_ (pk (h:=?_)))
     )
    | (
     skip
     refine go_ (h:=?_)
     )
    all_goals
     refine w_ (pk (h:=wo_nil (e_ (h:=?_))))
 all_goals first
 | (
  refine aft_normal ?_
  refine c_ (h1:=?_) (h2:=?_)
  rotate_right 1
  focus
   intro c4
   first
   | exact dn c4
   | (
    have d4 := c4;try simp at d4
    refine wc_skip (?_)
    )
  rotate_right 1
  focus
   intro c4
   first
   | exact dn c4
   | (
    have d4 := c4;try simp at d4
    refine wa_ (wc_region (w_ (a_ (h:=wo_nil (e_ (h:=aft_normal (wc_ret (?_))))))))
    )
  )
 all_goals first
 | refine aft_ret ?_
 | (
  refine aft_normal ?_
  refine wa_ (wa_ (wc_region (w_ (f_ (h:=w_ (l_ (h:=w_ (bE (h:=w_ (m_ (h:=?_)))))))))))
  refine gw_ (h1:=?_) (h2:=?_)
  rotate_right 1
  focus
   intro c5
   first
   | exact dn c5
   | (
    have d5 := c5;try simp at d5
    refine go_ (h:=go_ (h:=go_ (h:=go_ (h:=?_))))
    )
  rotate_right 1
  focus
   intro c5
   first
   | exact dn c5
   | (
    have d5 := c5;try simp at d5
    refine g_ (h:=w_ (f_ (h:=g_ (h:=w_ (l_ (h:=g_ (h:=w_ (bE (h:=g_ (h:=w_ (m_ (h:=?_))))))))))))
    )
  all_goals
   first
   | (
    skip
    refine goN (h:=goN (h:=goN (h:=?_)))
    )
   | (
    refine gw_ (h1:=?_) (h2:=?_)
    rotate_right 1
    focus
     intro c6
     first
     | exact dn c6
     | (
      have d6 := c6;try simp at d6
      refine go_ (h:=go_ (h:=go_ (h:=?_)))
      )
    rotate_right 1
    focus
     intro c6
     first
     | exact dn c6
     | (
      have d6 := c6;try simp at d6
      refine g_ (h:=w_ (f_ (h:=g_ (h:=w_ (l_ (h:=g_ (h:=w_ (bE (h:=?_)))))))))
      )
    )
   all_goals
    first
    | (
     skip
     refine g_ (h:=w_ (pk (h:=?_)))
     )
    | (
     skip
     refine go_ (h:=?_)
     )
    all_goals
     refine w_ (pk (h:=w_ (m_ (h:=?_))))
     refine gw_ (h1:=?_) (h2:=?_)
     rotate_right 1
     focus
      intro c7
      first
      | exact dn c7
      | (
       have d7 := c7;try simp at d7
       refine go_ (h:=go_ (h:=go_ (h:=go_ (h:=?_))))
       )
     rotate_right 1
     focus
      intro c7
      first
      | exact dn c7
      | (
       have d7 := c7;try simp at d7
       refine g_ (h:=w_ (f_ (h:=g_ (h:=w_ (l_ (h:=g_ (h:=w_ (bE (h:=g_ (h:=w_ (m_ (h:=?_))))))))))))
       )
     all_goals
      first
      | (
       skip
       refine goN (h:=goN (h:=goN (h:=goN (h:=?_))))
       )
      | (
       refine gw_ (h1:=?_) (h2:=?_)
       rotate_right 1
       focus
        intro c8
        first
        | exact dn c8
        | (
         have d8 := c8;try simp at d8
         refine go_ (h:=go_ (h:=go_ (h:=go_ (h:=?_))))
         )
       rotate_right 1
       focus
        intro c8
        first
        | exact dn c8
        | (
         have d8 := c8;try simp at d8
         refine g_ (h:=w_ (f_ (h:=g_ (h:=w_ (l_ (h:=g_ (h:=w_ (le (h:=g_ (h:=w_ (b_ (h:=?_))))))))))))
         )
       )
      all_goals
       first
       | (
        skip
        refine g_ (h:=w_ (pk (h:=?_)))
        )
       | (
        skip
        refine go_ (h:=?_)
        )
       all_goals
        refine w_ (pk (h:=wo_nil (e_ (h:=?_))))
  all_goals first
  | (
   refine aft_normal ?_
   refine c_ (h1:=?_) (h2:=?_)
   rotate_right 1
   focus
    intro c9
    first
    | exact dn c9
    | (
     have d9 := c9;try simp at d9
     refine wc_skip (?_)
     )
   rotate_right 1
   focus
    intro c9
    first
    | exact dn c9
    | (
     have d9 := c9;try simp at d9
     refine wa_ (wc_region (w_ (a_ (h:=wo_nil (e_ (h:=aft_normal (wc_ret (?_))))))))
     )
   )
  all_goals first
  | refine aft_ret ?_
  | (
   refine aft_normal ?_
   refine wa_ (wa_ (wc_region (w_ (f_ (h:=w_ (l_ (h:=wo_nil (e_ (h:=aft_normal (wc_block (wa_ (wa_ (wc_region (w_ (bE (h:=?_))))))))))))))))
   refine w_ (a_ (h:=wo_nil (e_ (h:=aft_normal (?_)))))
   refine c_ (h1:=?_) (h2:=?_)
   rotate_right 1
   focus
    intro c10
    first
    | exact dn c10
    | (
     have d10 := c10;try simp at d10
     refine wa_ (wc_region (w_ (bE (h:=w_ (a_ (h:=wo_nil (e_ (h:=aft_normal (?_)))))))))
     refine c_ (h1:=?_) (h2:=?_)
     rotate_right 1
     focus
      intro c11
      first
      | exact dn c11
      | (
       have d11 := c11;try simp at d11
       refine wa_ (wc_region (w_ (bE (h:=w_ (a_ (h:=wo_nil (e_ (h:=aft_normal (?_)))))))))
       refine c_ (h1:=?_) (h2:=?_)
       rotate_right 1
       focus
        intro c12
        first
        | exact dn c12
        | (
         have d12 := c12;try simp at d12
         refine wa_ (wc_region (w_ (bE (h:=w_ (a_ (h:=wo_nil (e_ (h:=aft_normal (?_)))))))))
         refine c_ (h1:=?_) (h2:=?_)
         rotate_right 1
         focus
          intro c13
          first
          | exact dn c13
          | (
           have d13 := c13;try simp at d13
           refine wc_region (w_ (bE (h:=w_ (a_ (h:=wo_nil (e_ (h:=?_)))))))
           )
         rotate_right 1
         focus
          intro c13
          first
          | exact dn c13
          | (
           have d13 := c13;try simp at d13
           refine wc_skip (?_)
           )
         )
       rotate_right 1
       focus
        intro c12
        first
        | exact dn c12
        | (
         have d12 := c12;try simp at d12
         refine wc_skip (?_)
         )
       )
     rotate_right 1
     focus
      intro c11
      first
      | exact dn c11
      | (
       have d11 := c11;try simp at d11
       refine wc_skip (?_)
       )
     )
   rotate_right 1
   focus
    intro c10
    first
    | exact dn c10
    | (
     have d10 := c10;try simp at d10
     refine wc_skip (?_)
     )
   all_goals first
   | (
    refine aft_normal ?_
    refine c_ (h1:=?_) (h2:=?_)
    rotate_right 1
    focus
     intro c14
     first
     | exact dn c14
     | (
      have d14 := c14;try simp at d14
      refine wc_skip (?_)
      )
    rotate_right 1
    focus
     intro c14
     first
     | exact dn c14
     | (
      have d14 := c14;try simp at d14
      refine wa_ (wc_region (w_ (f_ (h:=w_ (l_ (h:=w_ (bE (h:=w_ (a_ (h:=wo_nil (e_ (h:=aft_normal (wc_ret (?_))))))))))))))
      )
    )
   all_goals first | refine blk_normal ?_ | refine blk_ret ?_
   all_goals first
   | refine aft_ret ?_
   | (
    refine aft_normal ?_
    refine wa_ (wc_region (w_ (a_ (h:=wo_nil (e_ (h:=aft_normal (wc_ret (?_))))))))
    )
   )
  )
 all_goals (refine fin_ (hr:=(res_tmp rfl res_nil)) (h:=?_);(focus (simp [Nd.eq_iff,plainN];grind)))
theorem reads_len (d : Nd) : ((readsN d).length : Int) = if d.op = 1 then 0 else if d.op = 4 ∨ d.op = 6 then 2 else 1 := by
  unfold readsN
  split
  · simp
  · split <;> simp
theorem reads_at {d : Nd} {k : Nat} (h : k < (readsN d).length) : (readsN d).drop k = (if k = 1 then d.b else d.a) :: (readsN d).drop (k + 1) := by
  rw [List.drop_eq_getElem_cons h]
  congr 1
  unfold readsN at h ⊢
  split at h
  · simp at h
  · split at h
    · simp at h
      rcases k with _ | _ | k
      · simp [*]
      · simp [*]
      · omega
    · simp at h
      subst h
      simp [*]
theorem l_readsS (pl : List Nd) (d : Nd) (i : Nat) (hp : pl.length < 2000000) (hi : i ≤ pl.length) : ∀ k : Nat,k ≤ (readsN d).length → ∀ s,normE 2 (some [0,1,5,6]) s = ⟨[(0,.lst false 0 (nds false 0 pl)),(1,.int .i64 i),(5,.ptr 2 0 []),(6,.int .i64 k)],[(2,⟨true,false,7,[d.v false 0],0⟩)],3⟩ →
 oc.loop 87 7 s = some (if ((readsN d).drop k).all (okR pl i) = true then (.exit 0,⟨[(0,.lst false 0 (nds false 0 pl)),(5,.ptr 2 0 [])],[(2,⟨true,false,7,[d.v false 0],0⟩)],3⟩)
  else (.ret,⟨[(0,.lst false 0 (nds false 0 pl)),(4,.int .i64 3),(5,.ptr 2 0 [])],[(2,⟨true,false,7,[d.v false 0],0⟩)],3⟩)) := by
 refine loop_ind (fun k => (readsN d).length - k) _ (fun k => ⟨[(0,.lst false 0 (nds false 0 pl)),(1,.int .i64 i),(5,.ptr 2 0 []),(6,.int .i64 k)],[(2,⟨true,false,7,[d.v false 0],0⟩)],3⟩) _ ?_
 intro k hk ih s hs
 have hw2 : IntKind.i64.wrap ((i : Int) - 1) = i - 1 := wrap_id (by omega) (by omega)
 have hlen := reads_len d
 have hle : (readsN d).length ≤ 2 := by unfold readsN;split;simp;split <;> simp
 have hw := wrap_succ (i:=k) (by omega)
 refine loop_s cd87 rfl rfl hs ?_
 refine wa_ (wa_ (wc_region (w_ (m_ (h:=w_ (f_ (h:=w_ (l_ (h:=w_ (ca (hc:=e_l3Reads _) (h:=w_ (b_ (h:=wo_nil (e_ (h:=aft_normal (?_))))))))))))))))
 refine c_ (h1:=?_) (h2:=?_)
 rotate_right 1
 focus
  intro c1
  first
  | exact dn c1
  | (
   have d1 := c1;try simp at d1
   rw [← hlen] at d1;have : k = (readsN d).length := (by omega)
   refine wc_exit (?_)
   )
 rotate_right 1
 focus
  intro c1
  first
  | exact dn c1
  | (
   have d1 := c1;try simp at d1
   rw [← hlen] at d1;have e1 := reads_at (d:=d) (k:=k) (by omega)
   refine wc_skip (?_)
   )
 all_goals first
 | refine aft_exit ?_
 | (
  refine aft_normal ?_
  refine wa_ (wc_block (wa_ (wc_region (w_ (f_ (h:=w_ (l_ (h:=w_ (a_ (h:=wo_nil (e_ (h:=aft_normal (wa_ (wa_ (wc_region (?_))))))))))))))))
  refine w_ (m_ (h:=w_ (bE (h:=wo_nil (e_ (h:=aft_normal (?_)))))))
  refine c_ (h1:=?_) (h2:=?_)
  rotate_right 1
  focus
   intro c2
   first
   | exact dn c2
   | (
    have d2 := c2;try simp at d2
    refine wc_skip (?_)
    )
  rotate_right 1
  focus
   intro c2
   first
   | exact dn c2
   | (
    have d2 := c2;try simp at d2
    refine wc_region (w_ (f_ (h:=w_ (l_ (h:=w_ (a_ (h:=wo_nil (e_ (h:=?_)))))))))
    )
  all_goals first
  | (
   refine aft_normal ?_
   refine wa_ (wc_region (w_ (m_ (h:=w_ (m_ (h:=w_ (b_ (h:=w_ (ca (hc:=e_l1In _ _ _) (h:=w_ (u_ (h:=w_ (m_ (h:=?_))))))))))))))
   refine gw_ (h1:=?_) (h2:=?_)
   rotate_right 1
   focus
    intro c3
    first
    | exact dn c3
    | (
     have d3 := c3;try simp at d3
     refine go_ (h:=go_ (h:=go_ (h:=go_ (h:=go_ (h:=go_ (h:=?_))))))
     )
   rotate_right 1
   focus
    intro c3
    first
    | exact dn c3
    | (
     have d3 := c3;try simp at d3
     simp [inI,hw2] at d3;obtain ⟨h3,h4⟩ := d3;obtain ⟨e,g2,g3⟩ := nds_ix (t:=false) (s:=0) (l:=pl) h3 (by omega)
     refine g_ (h:=w_ (m_ (h:=g_ (h:=w_ (m_ (h:=g_ (h:=w_ (x_ (h:=g_ (h:=w_ (f_ (h:=g_ (h:=w_ (l_ (h:=g_ (h:=w_ (bE (h:=?_))))))))))))))))))
     )
   all_goals
    refine w_ (pk (h:=wo_nil (e_ (h:=?_))))
   all_goals first
   | (
    refine aft_normal ?_
    refine c_ (h1:=?_) (h2:=?_)
    rotate_right 1
    focus
     intro c4
     first
     | exact dn c4
     | (
      have d4 := c4;try simp at d4
      refine wc_skip (?_)
      )
    rotate_right 1
    focus
     intro c4
     first
     | exact dn c4
     | (
      have d4 := c4;try simp at d4
      refine wa_ (wc_region (w_ (a_ (h:=wo_nil (e_ (h:=aft_normal (wc_ret (?_))))))))
      )
    )
   )
  all_goals first | refine blk_normal ?_ | refine blk_ret ?_
  all_goals first
  | refine aft_ret ?_
  | (
   refine aft_normal ?_
   refine wc_region (w_ (m_ (h:=w_ (b_ (h:=w_ (a_ (h:=wo_nil (e_ (h:=?_)))))))))
   )
  )
 all_goals first
 | (refine (ih (k + 1) (by omega) ?_ _ ?_).trans ?_;(focus (first | omega | (simp;done) | (simp;omega)));(focus (simp [normE,hw];done));(focus (rw [e1];simp [okR] at *;grind)))
 | (apply end_leaf (ex:=Ext.ret) 2 (some [0,4,5]);(focus (simp [normE];rfl));(focus (rw [e1];simp [okR] at *;grind)))
 | (apply end_leaf (ex:=(Ext.exit 0)) 2 (some [0,4,5]);(focus (simp [normE];rfl));(focus (rw [List.drop_eq_nil_of_le (by omega)];simp)))
theorem l_cellsS (d : Nd) (v : Int) (hd : d.cells.length < 2000000) : ∀ i : Nat,i ≤ d.cells.length → ∀ s,normE 2 (some [5,8,9]) s = ⟨[(5,.ptr 2 0 []),(8,.int .i64 v),(9,.int .i64 i)],[(2,⟨true,false,7,[d.v false 0],0⟩)],3⟩ →
 oc.loop 87 27 s = some (if ((d.cells.drop i).all fun c => inI c 0 (IntKind.i64.wrap (v - 1))) = true then (.exit 3,⟨[],[],2⟩) else (.ret,⟨[(4,.int .i64 3)],[],2⟩)) := by
 refine loop_ind (fun i => d.cells.length - i) _ (fun i => ⟨[(5,.ptr 2 0 []),(8,.int .i64 v),(9,.int .i64 i)],[(2,⟨true,false,7,[d.v false 0],0⟩)],3⟩) _ ?_
 intro i hi ih s hs
 refine loop_s cd87 rfl rfl hs ?_
 refine wa_ (wa_ (wc_region (w_ (m_ (h:=w_ (f_ (h:=w_ (l_ (h:=w_ (le (h:=w_ (b_ (h:=wo_nil (e_ (h:=aft_normal (?_))))))))))))))))
 refine c_ (h1:=?_) (h2:=?_)
 rotate_right 1
 focus
  intro c1
  simp at c1;have : i = d.cells.length := (by omega);subst this
  refine wc_exit (?_)
 rotate_right 1
 focus
  intro c1
  simp at c1;have hw := wrap_succ (i:=i) (by omega);obtain ⟨x,_,d1,g1⟩ := ints_cut c1
  refine wc_skip (?_)
 all_goals first
 | refine aft_exit ?_
 | (
  refine aft_normal ?_
  refine wa_ (wc_block (wa_ (wc_region (w_ (f_ (h:=w_ (l_ (h:=w_ (m_ (h:=w_ (x_ (h:=w_ (l_ (h:=w_ (m_ (h:=w_ (b_ (h:=w_ (ca (hc:=e_l1In _ _ _) (h:=?_))))))))))))))))))))
  refine w_ (u_ (h:=wo_nil (e_ (h:=aft_normal (?_)))))
  refine c_ (h1:=?_) (h2:=?_)
  rotate_right 1
  focus
   intro c2
   refine wc_skip (?_)
  rotate_right 1
  focus
   intro c2
   refine wa_ (wc_region (w_ (a_ (h:=wo_nil (e_ (h:=aft_normal (wc_ret (?_))))))))
  all_goals first | refine blk_normal ?_ | refine blk_ret ?_
  all_goals first
  | refine aft_ret ?_
  | (
   refine aft_normal ?_
   refine wc_region (w_ (m_ (h:=w_ (b_ (h:=w_ (a_ (h:=wo_nil (e_ (h:=?_)))))))))
   )
  )
 all_goals first
 | (refine (ih (i + 1) (by omega) ?_ _ ?_).trans ?_;(focus (first | omega | (simp;done) | (simp;omega)));(focus (simp [normE,hw];done));(focus (rw [d1];simp at c2 ⊢;grind)))
 | (apply end_leaf (ex:=Ext.ret) 2 (some [4]);(focus (simp [normE];rfl));(focus (rw [d1];simp at c2 ⊢;grind)))
 | (apply end_leaf (ex:=(Ext.exit 3)) 2 (some [4]);(focus (simp [normE];rfl));(focus (simp)))
theorem e_l3WidthI (pl : List Nd) (ws : List Int) (hp : pl.length < 2000000) (G : Good pl ws) (a : Int) (h0 : 0 ≤ a) (h1 : a < ws.length) : oc.call 162 [.lst false 0 (nds false 0 pl),.int .i64 a] = some (.int .i64 (at0 ws a),[]) := by
  have := e_l3Width pl ws hp G a.toNat (by omega)
  rwa [Int.toNat_of_nonneg h0] at this
def Hid (p : Prop) : Prop := p
theorem e_l3Node (pl : List Nd) (ws : List Int) (d : Nd) (hp : pl.length < 2000000) (hk : okN pl) (G : Good pl ws) (hx : pl[ws.length]? = some d) : oc.call 87 [.lst false 0 (nds false 0 pl),.int .i64 ws.length] = some (.int .i64 (stepC pl d ws),[]) := by
 have hd := hk d (List.mem_of_getElem? hx)
 have hlt : ws.length < pl.length := (List.getElem?_eq_some_iff.mp hx).1
 have g1 : (nds false 0 pl)[(ws.length : Int).toNat]? = some (d.v false 0) := nds_get (by simpa using hx)
 refine fun_s rfl cd87 rfl rfl rfl (by simp;rfl) (by simp;rfl) ?_
 refine wa_ (wc_region (w_ (a_ (h:=wo_nil (e_ (h:=aft_normal (wa_ (wc_region (w_ (m_ (h:=w_ (m_ (h:=w_ (x_ (h:=w_ (l_ (h:=w_ (al (h:=?_)))))))))))))))))))
 refine w0 (s_ (h:=wo_nil (e_ (h:=aft_normal (wa_ (wa_ (wc_region (w_ (f_ (h:=w_ (l_ (h:=w_ (ca (hc:=e_l1In _ _ _) (h:=w_ (u_ (h:=wo_nil (e_ (h:=aft_normal (?_)))))))))))))))))))
 refine c_ (h1:=?_) (h2:=?_)
 rotate_right 1
 focus
  intro c1
  first
  | exact dn c1
  | (
   have d1 := c1;try simp at d1
   refine wc_skip (?_)
   )
 rotate_right 1
 focus
  intro c1
  first
  | exact dn c1
  | (
   have d1 := c1;try simp at d1
   refine wa_ (wc_region (w_ (a_ (h:=wo_nil (e_ (h:=aft_normal (wc_ret (?_))))))))
   )
 all_goals first
 | refine aft_ret ?_
 | (
  refine aft_normal ?_
  refine wa_ (wa_ (wc_region (w_ (l_ (h:=w_ (ca (hc:=e_l3Named d hd (by simp [inI] at d1;omega)) (h:=w_ (u_ (h:=wo_nil (e_ (h:=aft_normal (?_))))))))))))
  refine c_ (h1:=?_) (h2:=?_)
  rotate_right 1
  focus
   intro c2
   first
   | exact dn c2
   | (
    have d2 := c2;try simp at d2
    have hpl : Hid (d = plainN d) := d2;clear d2 c2
    refine wc_skip (?_)
    )
  rotate_right 1
  focus
   intro c2
   first
   | exact dn c2
   | (
    have d2 := c2;try simp at d2
    refine wa_ (wc_region (w_ (a_ (h:=wo_nil (e_ (h:=aft_normal (wc_ret (?_))))))))
    )
  all_goals first
  | refine aft_ret ?_
  | (
   refine aft_normal ?_
   refine wa_ (wa_ (wc_region (w_ (a_ (h:=wo_nil (e_ (h:=aft_normal (wc_block (?_)))))))))
   refine wc_loopI (l_readsS pl d ws.length (by omega) (by omega) 0 (by omega) _ (by simp [normE])) ?_ ?_
   rotate_right 1
   focus
    intro c3
    first
    | exact dn c3
    | (
     have d3 := c3;try simp at d3
     have d3' : (readsN d).all (okR pl ws.length) = false := (by simpa using c3)
     skip
     )
   rotate_right 1
   focus
    intro c3
    first
    | exact dn c3
    | (
     have d3 := c3;try simp at d3
     have d3' : (readsN d).all (okR pl ws.length) = true := (by simpa using c3);obtain ⟨k1,k2⟩ := fit_of (i:=ws.length) (by omega) (by simpa using c3)
     skip
     )
   all_goals first | refine blk_ret ?_ | refine blk_exit ?_
   all_goals first
   | refine aft_ret ?_
   | (
    refine aft_normal ?_
    refine wa_ (wa_ (wc_region (w_ (f_ (h:=w_ (l_ (h:=w_ (bE (h:=wo_nil (e_ (h:=aft_normal (?_))))))))))))
    refine c_ (h1:=?_) (h2:=?_)
    rotate_right 1
    focus
     intro c4
     first
     | exact dn c4
     | (
      have d4 := c4;try simp at d4
      obtain ⟨h3,h4⟩ := k1 (by omega)
      refine wc_skip (?_)
      )
    rotate_right 1
    focus
     intro c4
     first
     | exact dn c4
     | (
      have d4 := c4;try simp at d4
      refine wa_ (wa_ (wc_region (w_ (f_ (h:=w_ (l_ (h:=w_ (ca (hc:=e_l1In _ _ _) (h:=w_ (u_ (h:=wo_nil (e_ (h:=aft_normal (?_))))))))))))))
      refine c_ (h1:=?_) (h2:=?_)
      rotate_right 1
      focus
       intro c5
       first
       | exact dn c5
       | (
        have d5 := c5;try simp at d5
        refine wc_skip (?_)
        )
      rotate_right 1
      focus
       intro c5
       first
       | exact dn c5
       | (
        have d5 := c5;try simp at d5
        refine wa_ (wc_region (w_ (a_ (h:=wo_nil (e_ (h:=aft_normal (wc_ret (?_))))))))
        )
      all_goals first
      | refine aft_ret ?_
      | (
       refine aft_normal ?_
       refine wa_ (wc_region (w_ (a_ (h:=wo_nil (e_ (h:=aft_normal (wc_ret (?_))))))))
       )
      )
    all_goals first
    | refine aft_ret ?_
    | (
     refine aft_normal ?_
     refine wa_ (wc_region (w_ (m_ (h:=w_ (f_ (h:=w_ (l_ (h:=w_ (ca (hc:=e_l3WidthI pl ws hp G _ h3 h4) (h:=w_ (a_ (h:=wo_nil (e_ (h:=aft_normal (wa_ (wa_ (wc_region (?_))))))))))))))))))
     refine w_ (f_ (h:=w_ (l_ (h:=wo_nil (e_ (h:=aft_normal (wc_block (wa_ (wc_region (w_ (bE (h:=w_ (a_ (h:=wo_nil (e_ (h:=aft_normal (?_)))))))))))))))))
     refine c_ (h1:=?_) (h2:=?_)
     rotate_right 1
     focus
      intro c6
      first
      | exact dn c6
      | (
       have d6 := c6;try simp at d6
       refine wa_ (wc_region (w_ (bE (h:=w_ (a_ (h:=wo_nil (e_ (h:=aft_normal (?_)))))))))
       refine c_ (h1:=?_) (h2:=?_)
       rotate_right 1
       focus
        intro c7
        first
        | exact dn c7
        | (
         have d7 := c7;try simp at d7
         refine wa_ (wc_region (w_ (bE (h:=w_ (a_ (h:=wo_nil (e_ (h:=aft_normal (?_)))))))))
         refine c_ (h1:=?_) (h2:=?_)
         rotate_right 1
         focus
          intro c8
          first
          | exact dn c8
          | (
           have d8 := c8;try simp at d8
           refine wa_ (wc_region (w_ (bE (h:=w_ (a_ (h:=wo_nil (e_ (h:=aft_normal (?_)))))))))
           refine c_ (h1:=?_) (h2:=?_)
           rotate_right 1
           focus
            intro c9
            first
            | exact dn c9
            | (
             have d9 := c9;try simp at d9
             refine wa_ (wc_region (w_ (bE (h:=w_ (a_ (h:=wo_nil (e_ (h:=aft_normal (?_)))))))))
             refine c_ (h1:=?_) (h2:=?_)
             rotate_right 1
             focus
              intro c10
              first
              | exact dn c10
              | (
               have d10 := c10;try simp at d10
               refine wa_ (wa_ (wc_region (w_ (bE (h:=w_ (a_ (h:=wo_nil (e_ (h:=aft_normal (?_))))))))))
               refine c_ (h1:=?_) (h2:=?_)
               rotate_right 1
               focus
                intro c11
                first
                | exact dn c11
                | (
                 have d11 := c11;try simp at d11
                 refine wa_ (wc_region (w_ (bE (h:=w_ (a_ (h:=wo_nil (e_ (h:=aft_normal (?_)))))))))
                 refine c_ (h1:=?_) (h2:=?_)
                 rotate_right 1
                 focus
                  intro c12
                  first
                  | exact dn c12
                  | (
                   have d12 := c12;try simp at d12
                   refine wc_region (w_ (bE (h:=w_ (a_ (h:=wo_nil (e_ (h:=?_)))))))
                   )
                 rotate_right 1
                 focus
                  intro c12
                  first
                  | exact dn c12
                  | (
                   have d12 := c12;try simp at d12
                   refine wc_skip (?_)
                   )
                 )
               rotate_right 1
               focus
                intro c11
                first
                | exact dn c11
                | (
                 have d11 := c11;try simp at d11
                 refine wc_skip (?_)
                 )
               all_goals first
               | (
                refine aft_normal ?_
                refine c_ (h1:=?_) (h2:=?_)
                rotate_right 1
                focus
                 intro c13
                 first
                 | exact dn c13
                 | (
                  have d13 := c13;try simp at d13
                  refine wc_skip (?_)
                  )
                rotate_right 1
                focus
                 intro c13
                 first
                 | exact dn c13
                 | (
                  have d13 := c13;try simp at d13
                  refine wa_ (wc_region (w_ (f_ (h:=w_ (l_ (h:=w_ (m_ (h:=w_ (b_ (h:=w_ (ca (hc:=e_l1In _ _ _) (h:=w_ (u_ (h:=wo_nil (e_ (h:=aft_normal (?_)))))))))))))))))
                  refine c_ (h1:=?_) (h2:=?_)
                  rotate_right 1
                  focus
                   intro c14
                   first
                   | exact dn c14
                   | (
                    have d14 := c14;try simp at d14
                    refine wc_skip (?_)
                    )
                  rotate_right 1
                  focus
                   intro c14
                   first
                   | exact dn c14
                   | (
                    have d14 := c14;try simp at d14
                    refine wa_ (wc_region (w_ (a_ (h:=wo_nil (e_ (h:=aft_normal (wc_ret (?_))))))))
                    )
                  )
                )
               )
             rotate_right 1
             focus
              intro c10
              first
              | exact dn c10
              | (
               have d10 := c10;try simp at d10
               refine wa_ (wc_draw (y_ (f_ (h:=ax_ (h:=y_ (l_ (h:=ax_ (h:=y_ (m_ (h:=ax_ (h:=y_ (ca (hc:=e_l1Min _ _) (h:=ax_ (h:=y_ (ca (hc:=e_l1In _ _ _) (h:=ax_ (h:=y_ (u_ (h:=ax_ (h:=wo_nil (ed (h:=aft_normal (?_)))))))))))))))))))))))
               refine c_ (h1:=?_) (h2:=?_)
               rotate_right 1
               focus
                intro c15
                first
                | exact dn c15
                | (
                 have d15 := c15;try simp at d15
                 refine wc_skip (?_)
                 )
               rotate_right 1
               focus
                intro c15
                first
                | exact dn c15
                | (
                 have d15 := c15;try simp at d15
                 refine wa_ (wc_region (w_ (a_ (h:=wo_nil (e_ (h:=aft_normal (wc_ret (?_))))))))
                 )
               )
             )
           rotate_right 1
           focus
            intro c9
            first
            | exact dn c9
            | (
             have d9 := c9;try simp at d9
             obtain ⟨h5,h6⟩ := k2 (by omega)
             refine wa_ (wc_region (w_ (m_ (h:=w_ (f_ (h:=w_ (l_ (h:=w_ (ca (hc:=e_l3WidthI pl ws hp G _ h5 h6) (h:=w_ (a_ (h:=wo_nil (e_ (h:=aft_normal (wa_ (wa_ (wc_draw (?_))))))))))))))))))
             refine y_ (f_ (h:=ax_ (h:=y_ (l_ (h:=ax_ (h:=y_ (m_ (h:=ax_ (h:=y_ (m_ (h:=ax_ (h:=y_ (ca (hc:=e_l1Min _ _) (h:=ax_ (h:=y_ (ca (hc:=e_l1In _ _ _) (h:=ax_ (h:=y_ (u_ (h:=ax_ (h:=wo_nil (ed (h:=aft_normal (?_))))))))))))))))))))))))
             refine c_ (h1:=?_) (h2:=?_)
             rotate_right 1
             focus
              intro c16
              first
              | exact dn c16
              | (
               have d16 := c16;try simp at d16
               refine wc_skip (?_)
               )
             rotate_right 1
             focus
              intro c16
              first
              | exact dn c16
              | (
               have d16 := c16;try simp at d16
               refine wa_ (wc_region (w_ (a_ (h:=wo_nil (e_ (h:=aft_normal (wc_ret (?_))))))))
               )
             all_goals first
             | refine aft_ret ?_
             | (
              refine aft_normal ?_
              refine wa_ (wc_region (w_ (m_ (h:=w_ (m_ (h:=w_ (b_ (h:=w_ (f_ (h:=w_ (l_ (h:=w_ (b_ (h:=w_ (b_ (h:=wo_nil (e_ (h:=aft_normal (?_)))))))))))))))))))
              refine c_ (h1:=?_) (h2:=?_)
              rotate_right 1
              focus
               intro c17
               first
               | exact dn c17
               | (
                have d17 := c17;try simp at d17
                refine wc_skip (?_)
                )
              rotate_right 1
              focus
               intro c17
               first
               | exact dn c17
               | (
                have d17 := c17;try simp at d17
                refine wa_ (wc_region (w_ (a_ (h:=wo_nil (e_ (h:=aft_normal (wc_ret (?_))))))))
                )
              )
             )
           )
         rotate_right 1
         focus
          intro c8
          first
          | exact dn c8
          | (
           have d8 := c8;try simp at d8
           obtain ⟨h5,h6⟩ := k2 (by omega)
           refine wa_ (wc_region (w_ (m_ (h:=w_ (m_ (h:=w_ (f_ (h:=w_ (l_ (h:=w_ (ca (hc:=e_l3WidthI pl ws hp G _ h5 h6) (h:=w_ (bE (h:=wo_nil (e_ (h:=aft_normal (?_)))))))))))))))))
           refine c_ (h1:=?_) (h2:=?_)
           rotate_right 1
           focus
            intro c18
            first
            | exact dn c18
            | (
             have d18 := c18;try simp at d18
             refine wc_skip (?_)
             )
           rotate_right 1
           focus
            intro c18
            first
            | exact dn c18
            | (
             have d18 := c18;try simp at d18
             refine wa_ (wc_region (w_ (a_ (h:=wo_nil (e_ (h:=aft_normal (wc_ret (?_))))))))
             )
           )
         )
       rotate_right 1
       focus
        intro c7
        first
        | exact dn c7
        | (
         have d7 := c7;try simp at d7
         refine wa_ (wa_ (wc_region (w_ (f_ (h:=w_ (l_ (h:=w_ (le (h:=w_ (b_ (h:=w_ (m_ (h:=?_)))))))))))))
         refine gw_ (h1:=?_) (h2:=?_)
         rotate_right 1
         focus
          intro c19
          first
          | exact dn c19
          | (
           have d19 := c19;try simp at d19
           refine go_ (h:=go_ (h:=go_ (h:=go_ (h:=?_))))
           )
         rotate_right 1
         focus
          intro c19
          first
          | exact dn c19
          | (
           have d19 := c19;try simp at d19
           refine g_ (h:=w_ (f_ (h:=g_ (h:=w_ (l_ (h:=g_ (h:=w_ (le (h:=g_ (h:=w_ (b_ (h:=?_))))))))))))
           )
         all_goals
          refine w_ (pk (h:=wo_nil (e_ (h:=?_))))
         all_goals first
         | (
          refine aft_normal ?_
          refine c_ (h1:=?_) (h2:=?_)
          rotate_right 1
          focus
           intro c20
           first
           | exact dn c20
           | (
            have d20 := c20;try simp at d20
            refine wc_skip (?_)
            )
          rotate_right 1
          focus
           intro c20
           first
           | exact dn c20
           | (
            have d20 := c20;try simp at d20
            refine wa_ (wc_region (w_ (a_ (h:=wo_nil (e_ (h:=aft_normal (wc_ret (?_))))))))
            )
          )
         all_goals first
         | refine aft_ret ?_
         | (
          refine aft_normal ?_
          refine wa_ (wc_region (w_ (a_ (h:=wo_nil (e_ (h:=aft_normal (wc_block (?_))))))))
          refine wc_loopI (l_cellsS d (at0 ws d.a) hd 0 (by omega) _ (by simp [normE])) ?_ ?_
          rotate_right 1
          focus
           intro c21
           first
           | exact dn c21
           | (
            have d21 := c21;try simp at d21
            skip
            )
          rotate_right 1
          focus
           intro c21
           first
           | exact dn c21
           | (
            have d21 := c21;try simp at d21
            skip
            )
          all_goals first | refine blk_ret ?_ | refine blk_exit ?_
          )
         )
       )
     rotate_right 1
     focus
      intro c6
      first
      | exact dn c6
      | (
       have d6 := c6;try simp at d6
       refine wa_ (wc_region (w_ (f_ (h:=w_ (l_ (h:=w_ (m_ (h:=w_ (b_ (h:=w_ (ca (hc:=e_l1In _ _ _) (h:=w_ (u_ (h:=w_ (m_ (h:=?_))))))))))))))))
       refine gw_ (h1:=?_) (h2:=?_)
       rotate_right 1
       focus
        intro c22
        first
        | exact dn c22
        | (
         have d22 := c22;try simp at d22
         refine go_ (h:=go_ (h:=go_ (h:=go_ (h:=?_))))
         )
       rotate_right 1
       focus
        intro c22
        first
        | exact dn c22
        | (
         have d22 := c22;try simp at d22
         refine g_ (h:=w_ (f_ (h:=g_ (h:=w_ (l_ (h:=g_ (h:=w_ (ca (hc:=e_l1In _ _ _) (h:=g_ (h:=w_ (u_ (h:=?_))))))))))))
         )
       all_goals
        refine w_ (pk (h:=w_ (m_ (h:=?_))))
        refine gw_ (h1:=?_) (h2:=?_)
        rotate_right 1
        focus
         intro c23
         first
         | exact dn c23
         | (
          have d23 := c23;try simp at d23
          refine go_ (h:=go_ (h:=go_ (h:=go_ (h:=?_))))
          )
        rotate_right 1
        focus
         intro c23
         first
         | exact dn c23
         | (
          have d23 := c23;try simp at d23
          refine g_ (h:=w_ (f_ (h:=g_ (h:=w_ (l_ (h:=g_ (h:=w_ (ca (hc:=e_l1In _ _ _) (h:=g_ (h:=w_ (u_ (h:=?_))))))))))))
          )
        all_goals
         refine w_ (pk (h:=wo_nil (e_ (h:=?_))))
       all_goals first
       | (
        refine aft_normal ?_
        refine c_ (h1:=?_) (h2:=?_)
        rotate_right 1
        focus
         intro c24
         first
         | exact dn c24
         | (
          have d24 := c24;try simp at d24
          refine wc_skip (?_)
          )
        rotate_right 1
        focus
         intro c24
         first
         | exact dn c24
         | (
          have d24 := c24;try simp at d24
          refine wa_ (wc_region (w_ (a_ (h:=wo_nil (e_ (h:=aft_normal (wc_ret (?_))))))))
          )
        )
       )
     all_goals first | refine blk_normal ?_ | refine blk_ret ?_
     all_goals first
     | refine aft_ret ?_
     | (
      refine aft_normal ?_
      refine wa_ (wc_region (w_ (a_ (h:=wo_nil (e_ (h:=aft_normal (wc_ret (?_))))))))
      )
     )
    )
   )
  )
 all_goals (refine fin_ (hr:=(res_tmp rfl res_nil)) (h:=?_);(focus (clear hk G;simp only [Hid] at *;simp [stepC,faultN,widthN];grind [inI])))
theorem good_nil (pl : List Nd) : Good pl [] := fun n h => by simp at h
theorem step_ok {pl : List Nd} {d : Nd} {out : List Int} (hl : out.length < 2000000) (h : stepC pl d out = 0) : fitN d out.length := by
  unfold stepC at h
  split at h
  · cases h
  · split at h
    · cases h
    · split at h
      · cases h
      · rename_i h1 h2 h3
        exact fit_of hl (by simpa using h3)
theorem good_snoc {pl : List Nd} {d : Nd} {ws : List Int} (hk : okN pl) (hl : ws.length < 2000000) (G : Good pl ws) (hx : pl[ws.length]? = some d) (h : stepC pl d ws = 0) : Good pl (ws ++ [widthN d ws]) := by
  intro n hn
  by_cases hlt : n < ws.length
  · obtain ⟨e,h1,h2,h3⟩ := G n hlt
    refine ⟨e,h1,?_,h3⟩
    rw [List.take_append_of_le_length (by omega),← h2]
    simp only [at0,List.getD_eq_getElem?_getD]
    rw [List.getElem?_append_left (by omega)]
  · have : n = ws.length := by simp at hn;omega
    subst this
    refine ⟨d,hx,?_,step_ok hl h,hk d (List.mem_of_getElem? hx)⟩
    rw [List.take_left]
    simp [at0,List.getD_eq_getElem?_getD]
theorem l_planS (pl : List Nd) (hp : pl.length < 2000000) (hk : okN pl) : ∀ ws : List Int,(Good pl ws ∧ ws.length ≤ pl.length) → ∀ s,normE 1 (some [0,3]) s = ⟨[(0,.lst false 0 (nds false 0 pl)),(3,.int .i64 ws.length)],[],1⟩ →
 oc.loop 23 4 s = some (if (lookR pl (pl.drop ws.length) ws).2 = 0 then (.exit 0,⟨[],[],1⟩) else (.ret,⟨[(2,.int .i64 (lookR pl (pl.drop ws.length) ws).2)],[],1⟩)) := by
 refine loop_ind (σ:=List Int) (fun ws => pl.length - ws.length) _ (fun ws => ⟨[(0,.lst false 0 (nds false 0 pl)),(3,.int .i64 ws.length)],[],1⟩) _ ?_
 rintro ws ⟨G,hi⟩ ih s hs
 refine loop_s cd23 rfl rfl hs ?_
 refine wa_ (wa_ (wc_region (w_ (m_ (h:=w_ (m_ (h:=w_ (le (h:=w_ (b_ (h:=wo_nil (e_ (h:=aft_normal (?_))))))))))))))
 refine c_ (h1:=?_) (h2:=?_)
 rotate_right 1
 focus
  intro c1
  first
  | exact dn c1
  | (
   have d1 := c1;try simp at d1
   refine wc_exit (?_)
   )
 rotate_right 1
 focus
  intro c1
  first
  | exact dn c1
  | (
   have d1 := c1;try simp at d1
   have hw := wrap_succ (i:=ws.length) (by omega);obtain ⟨d,hx,e1,g1⟩ := nds_cut (t:=false) (s:=0) (l:=pl) (i:=ws.length) (by omega)
   refine wc_skip (?_)
   )
 all_goals first
 | refine aft_exit ?_
 | (
  refine aft_normal ?_
  refine wa_ (wc_block (wa_ (wc_region (w_ (m_ (h:=w_ (m_ (h:=w_ (ca (hc:=e_l3Node pl ws d hp hk G hx) (h:=w_ (a_ (h:=wo_nil (e_ (h:=aft_normal (wa_ (wc_region (?_)))))))))))))))))
  refine w_ (m_ (h:=w_ (bE (h:=wo_nil (e_ (h:=aft_normal (?_)))))))
  refine c_ (h1:=?_) (h2:=?_)
  rotate_right 1
  focus
   intro c2
   first
   | exact dn c2
   | (
    have d2 := c2;try simp at d2
    refine wc_skip (?_)
    )
  rotate_right 1
  focus
   intro c2
   first
   | exact dn c2
   | (
    have d2 := c2;try simp at d2
    refine wa_ (wc_region (w_ (m_ (h:=w_ (a_ (h:=wo_nil (e_ (h:=aft_normal (wc_ret (?_))))))))))
    )
  all_goals first | refine blk_normal ?_ | refine blk_ret ?_
  all_goals first
  | refine aft_ret ?_
  | (
   refine aft_normal ?_
   refine wc_region (w_ (m_ (h:=w_ (b_ (h:=w_ (a_ (h:=wo_nil (e_ (h:=?_)))))))))
   )
  )
 all_goals first
 | (refine (ih (ws ++ [widthN d ws]) (⟨good_snoc hk (by omega) G hx d2,by simp;omega⟩) ?_ _ ?_).trans ?_;(focus (first | omega | (simp;done) | (simp;omega)));(focus (simp [normE,hw];done));(focus (rw [look_go e1 d2];simp)))
 | (apply end_leaf (ex:=Ext.ret) 1 (some [2]);(focus (simp [normE];rfl));(focus (rw [e1,lookR,if_neg d2];simp [d2])))
 | (apply end_leaf (ex:=(Ext.exit 0)) 1 (some [2]);(focus (simp [normE];rfl));(focus (rw [List.drop_eq_nil_of_le (by omega)];simp [lookR])))
theorem e_planS (pl : List Nd) (hp : pl.length < 2000000) (hk : okN pl) : oc.call 23 [.lst false 0 (nds false 0 pl)] = some (.int .i64 (lookN pl).2,[]) := by
 refine fun_s rfl cd23 rfl rfl rfl (by simp;rfl) (by simp;rfl) ?_
 refine wa_ (wc_region (w_ (a_ (h:=wo_nil (e_ (h:=aft_normal (wa_ (wa_ (wc_region (w_ (m_ (h:=w_ (le (h:=w_ (b_ (h:=w_ (m_ (h:=?_))))))))))))))))))
 refine gw_ (h1:=?_) (h2:=?_)
 rotate_right 1
 focus
  intro c1
  first
  | exact dn c1
  | (
   have d1 := c1;try simp at d1
   refine go_ (h:=go_ (h:=go_ (h:=?_)))
   )
 rotate_right 1
 focus
  intro c1
  first
  | exact dn c1
  | (
   have d1 := c1;try simp at d1
   refine g_ (h:=w_ (m_ (h:=g_ (h:=w_ (le (h:=g_ (h:=w_ (b_ (h:=?_)))))))))
   )
 all_goals
  refine w_ (pk (h:=wo_nil (e_ (h:=?_))))
 all_goals first
 | (
  refine aft_normal ?_
  refine c_ (h1:=?_) (h2:=?_)
  rotate_right 1
  focus
   intro c2
   first
   | exact dn c2
   | (
    have d2 := c2;try simp at d2
    refine wc_skip (?_)
    )
  rotate_right 1
  focus
   intro c2
   first
   | exact dn c2
   | (
    have d2 := c2;try simp at d2
    refine wa_ (wc_region (w_ (a_ (h:=wo_nil (e_ (h:=aft_normal (wc_ret (?_))))))))
    )
  )
 all_goals first
 | refine aft_ret ?_
 | (
  refine aft_normal ?_
  refine wa_ (wa_ (wc_region (w_ (a_ (h:=wo_nil (e_ (h:=aft_normal (wc_block (?_)))))))))
  refine wc_loopI (l_planS pl hp hk [] ⟨good_nil pl,by simp⟩ _ (by simp [normE])) ?_ ?_
  rotate_right 1
  focus
   intro c3
   first
   | exact dn c3
   | (
    have d3 := c3;try simp at d3
    skip
    )
  rotate_right 1
  focus
   intro c3
   first
   | exact dn c3
   | (
    have d3 := c3;try simp at d3
    skip
    )
  all_goals first | refine blk_ret ?_ | refine blk_exit ?_
  all_goals first
  | refine aft_ret ?_
  | (
   refine aft_normal ?_
   refine wa_ (wc_region (w_ (a_ (h:=wo_nil (e_ (h:=aft_normal (wc_ret (?_))))))))
   )
  )
 all_goals (refine fin_ (hr:=(res_tmp rfl res_nil)) (h:=?_);(focus (clear hk;first | (simp_all [lookN,inI];done) | (simp_all [lookN,inI] <;> grind))))
end Go.Proofs.Ytgkbmiaimjpbfaa.Ev
namespace Go.Proofs.Ytgkbmiaimjpbfaa.Ev
open Go
set_option maxRecDepth 100000
set_option linter.unusedSimpArgs false
set_option linter.unusedVariables false
set_option maxHeartbeats 2000000
def isPl (pl : List Nd) (a : Int) : Bool := inI a 0 (2 * (pl.length : Int) - 1)
theorem e_isPlace (pl : List Nd) (a : Int) (hp : pl.length < 2000000) : oc.call 88 [.lst false 0 (nds false 0 pl),.int .i64 a] = some (.bool (isPl pl a),[]) := by
 refine fun_s rfl cd88 rfl rfl rfl (by simp;rfl) (by simp;rfl) ?_
 have h1 : IntKind.i64.wrap (2 * (pl.length : Int)) = 2 * pl.length := wrap_id (by omega) (by omega)
 have h2 : IntKind.i64.wrap (2 * (pl.length : Int) - 1) = 2 * pl.length - 1 := wrap_id (by omega) (by omega)
 refine wa_ (wc_region (w_ (a_ (h:=wo_nil (e_ (h:=aft_normal (wa_ (wc_region (w_ (m_ (h:=w_ (m_ (h:=w_ (ca (hc:=e_sizeN _ _ (by simp;omega)) (h:=w_ (b_ (h:=w_ (b_ (h:=?_)))))))))))))))))))
 refine w_ (ca (hc:=e_in _ _ _) (h:=w_ (a_ (h:=wo_nil (e_ (h:=aft_normal (wc_ret (?_))))))))
 all_goals (refine fin_ (hr:=(res_tmp rfl res_nil)) (h:=?_);(focus (simp [isPl,h1,h2])))
theorem e_l7Place (pl : List Nd) (a : Int) (hp : pl.length < 2000000) : oc.call 208 [.lst false 0 (nds false 0 pl),.int .i64 a] = some (.bool (isPl pl a),[]) := by
 refine fun_s rfl cd208 rfl rfl rfl (by simp;rfl) (by simp;rfl) ?_
 have h1 : IntKind.i64.wrap (2 * (pl.length : Int)) = 2 * pl.length := wrap_id (by omega) (by omega)
 have h2 : IntKind.i64.wrap (2 * (pl.length : Int) - 1) = 2 * pl.length - 1 := wrap_id (by omega) (by omega)
 refine wa_ (wc_region (w_ (a_ (h:=wo_nil (e_ (h:=aft_normal (wa_ (wc_region (w_ (m_ (h:=w_ (m_ (h:=w_ (le (h:=w_ (b_ (h:=w_ (b_ (h:=?_)))))))))))))))))))
 refine w_ (ca (hc:=e_l1In _ _ _) (h:=w_ (a_ (h:=wo_nil (e_ (h:=aft_normal (wc_ret (?_))))))))
 all_goals (refine fin_ (hr:=(res_tmp rfl res_nil)) (h:=?_);(focus (simp [isPl,h1,h2])))
end Go.Proofs.Ytgkbmiaimjpbfaa.Ev
namespace Go.Proofs.Ytgkbmiaimjpbfaa.Ev
open Go
set_option maxRecDepth 100000
set_option linter.unusedSimpArgs false
set_option linter.unusedVariables false
set_option maxHeartbeats 2000000
end Go.Proofs.Ytgkbmiaimjpbfaa.Ev
namespace Go.Proofs.Ytgkbmiaimjpbfaa.Ev
open Go
set_option maxRecDepth 100000
set_option linter.unusedSimpArgs false
set_option linter.unusedVariables false
set_option maxHeartbeats 2000000
end Go.Proofs.Ytgkbmiaimjpbfaa.Ev
namespace Go.Proofs.Ytgkbmiaimjpbfaa.Ev
open Go
set_option maxRecDepth 100000
set_option linter.unusedSimpArgs false
set_option linter.unusedVariables false
set_option maxHeartbeats 2000000
def cmpI (a b : Int) : Int := if a < b then -1 else if b < a then 1 else 0
theorem e_nan (a : Int) : oc.call 244 [.int .i64 a] = some (.bool false,[]) := by
 refine fun_s rfl cd244 rfl rfl rfl (by simp;rfl) (by simp;rfl) ?_
 refine wa_ (wc_region (w_ (a_ (h:=wo_nil (e_ (h:=aft_normal (wa_ (wc_region (w_ (m_ (h:=w_ (m_ (h:=w_ (bE (h:=w_ (a_ (h:=wo_nil (e_ (h:=?_)))))))))))))))))))
 refine aft_normal (wc_ret (?_))
 all_goals (refine fin_ (hr:=(res_tmp rfl res_nil)) (h:=?_);(focus (first | (simp_all;done) | (simp_all <;> omega) | (simp_all <;> split <;> simp_all <;> omega))))
theorem e_cmp (a b : Int) : oc.call 219 [.int .i64 a,.int .i64 b] = some (.int .i64 (cmpI a b),[]) := by
 refine fun_s rfl cd219 rfl rfl rfl (by simp;rfl) (by simp;rfl) ?_
 refine wa_ (wc_region (w_ (a_ (h:=wo_nil (e_ (h:=aft_normal (wa_ (wc_region (w_ (m_ (h:=w_ (ca (hc:=e_nan _) (h:=w_ (a_ (h:=wo_nil (e_ (h:=aft_normal (?_))))))))))))))))))
 refine wa_ (wc_region (w_ (m_ (h:=w_ (ca (hc:=e_nan _) (h:=w_ (a_ (h:=wo_nil (e_ (h:=aft_normal (wa_ (wa_ (wc_region (w_ (m_ (h:=wo_nil (e_ (h:=?_))))))))))))))))))
 refine aft_normal (?_)
 refine c_ (h1:=?_) (h2:=?_)
 rotate_right 1
 focus
  intro c1
  first
  | exact dn c1
  | (
   have d1 := c1;try simp at d1
   refine wc_skip (?_)
   )
 rotate_right 1
 focus
  intro c1
  first
  | exact dn c1
  | (
   have d1 := c1;try simp at d1
   refine wa_ (wa_ (wc_region (w_ (m_ (h:=wo_nil (e_ (h:=aft_normal (?_))))))))
   refine c_ (h1:=?_) (h2:=?_)
   rotate_right 1
   focus
    intro c2
    first
    | exact dn c2
    | (
     have d2 := c2;try simp at d2
     refine wc_skip (?_)
     )
   rotate_right 1
   focus
    intro c2
    first
    | exact dn c2
    | (
     have d2 := c2;try simp at d2
     refine wa_ (wc_region (w_ (a_ (h:=wo_nil (e_ (h:=aft_normal (wc_ret (?_))))))))
     )
   all_goals first
   | refine aft_ret ?_
   | (
    refine aft_normal ?_
    refine wa_ (wc_region (w_ (a_ (h:=wo_nil (e_ (h:=aft_normal (wc_ret (?_))))))))
    )
   )
 all_goals first
 | refine aft_ret ?_
 | (
  refine aft_normal ?_
  refine wa_ (wa_ (wc_region (w_ (m_ (h:=wo_nil (e_ (h:=aft_normal (?_))))))))
  refine c_ (h1:=?_) (h2:=?_)
  rotate_right 1
  focus
   intro c3
   first
   | exact dn c3
   | (
    have d3 := c3;try simp at d3
    refine wc_skip (?_)
    )
  rotate_right 1
  focus
   intro c3
   first
   | exact dn c3
   | (
    have d3 := c3;try simp at d3
    refine wa_ (wc_region (w_ (a_ (h:=wo_nil (e_ (h:=aft_normal (wc_ret (?_))))))))
    )
  all_goals first
  | refine aft_ret ?_
  | (
   refine aft_normal ?_
   refine wa_ (wa_ (wc_region (w_ (m_ (h:=w_ (m_ (h:=w_ (b_ (h:=wo_nil (e_ (h:=aft_normal (?_))))))))))))
   refine c_ (h1:=?_) (h2:=?_)
   rotate_right 1
   focus
    intro c4
    first
    | exact dn c4
    | (
     have d4 := c4;try simp at d4
     refine wc_skip (?_)
     )
   rotate_right 1
   focus
    intro c4
    first
    | exact dn c4
    | (
     have d4 := c4;try simp at d4
     refine wa_ (wc_region (w_ (a_ (h:=wo_nil (e_ (h:=aft_normal (wc_ret (?_))))))))
     )
   all_goals first
   | refine aft_ret ?_
   | (
    refine aft_normal ?_
    refine wa_ (wa_ (wc_region (w_ (m_ (h:=w_ (m_ (h:=w_ (b_ (h:=wo_nil (e_ (h:=aft_normal (?_))))))))))))
    refine c_ (h1:=?_) (h2:=?_)
    rotate_right 1
    focus
     intro c5
     first
     | exact dn c5
     | (
      have d5 := c5;try simp at d5
      refine wc_skip (?_)
      )
    rotate_right 1
    focus
     intro c5
     first
     | exact dn c5
     | (
      have d5 := c5;try simp at d5
      refine wa_ (wc_region (w_ (a_ (h:=wo_nil (e_ (h:=aft_normal (wc_ret (?_))))))))
      )
    all_goals first
    | refine aft_ret ?_
    | (
     refine aft_normal ?_
     refine wa_ (wc_region (w_ (a_ (h:=wo_nil (e_ (h:=aft_normal (wc_ret (?_))))))))
     )
    )
   )
  )
 all_goals (refine fin_ (hr:=(res_tmp rfl res_nil)) (h:=?_);(focus (simp [cmpI];grind)))
theorem l_or (a b : Int) : ∀ i : Nat,(i ≤ 2) → ∀ s,normE 1 (some [3,6,7,8]) s = ⟨[(3,.int .i64 0),(6,.lst false 0 (ints [a,b])),(7,.int .i64 2),(8,.int .i64 i)],[],1⟩ →
 oc.loop 233 3 s = some (if ([a,b].drop i).all (fun x => decide (x = 0)) = true then (.exit 0,⟨[(3,.int .i64 0)],[],1⟩) else (.ret,⟨[(2,.int .i64 (if i = 0 ∧ a ≠ 0 then a else b)),(3,.int .i64 0)],[],1⟩)) := by
 refine loop_ind (σ:=Nat) (fun i => 2 - i) _ (fun i => ⟨[(3,.int .i64 0),(6,.lst false 0 (ints [a,b])),(7,.int .i64 2),(8,.int .i64 i)],[],1⟩) _ ?_
 intro i hi ih s hs
 refine loop_s cd233 rfl rfl hs ?_
 refine wa_ (wc_region (w_ (b_ (h:=wo_nil (e_ (h:=aft_normal (wa_ (?_))))))))
 refine c_ (h1:=?_) (h2:=?_)
 rotate_right 1
 focus
  intro c1
  first
  | exact dn c1
  | (
   have d1 := c1;try simp at d1
   have : i = 2 := (by omega);subst this
   refine wc_exit (?_)
   )
 rotate_right 1
 focus
  intro c1
  first
  | exact dn c1
  | (
   have d1 := c1;try simp at d1
   have hw := wrap_succ (i:=i) (by omega);obtain ⟨x,hx,e1,g1⟩ := ints_cut (l:=[a,b]) (i:=i) (by simp;omega)
   refine wc_skip (?_)
   )
 all_goals first
 | refine aft_exit ?_
 | (
  refine aft_normal ?_
  refine wa_ (wc_block (wa_ (wc_region (w_ (x_ (h:=w_ (l_ (h:=w_ (a_ (h:=wo_nil (e_ (h:=aft_normal (wa_ (wc_region (w_ (m_ (h:=?_)))))))))))))))))
  refine w_ (m_ (h:=w_ (bE (h:=wo_nil (e_ (h:=aft_normal (?_)))))))
  refine c_ (h1:=?_) (h2:=?_)
  rotate_right 1
  focus
   intro c2
   first
   | exact dn c2
   | (
    have d2 := c2;try simp at d2
    refine wc_skip (?_)
    )
  rotate_right 1
  focus
   intro c2
   first
   | exact dn c2
   | (
    have d2 := c2;try simp at d2
    refine wa_ (wc_region (w_ (m_ (h:=w_ (a_ (h:=wo_nil (e_ (h:=aft_normal (wc_ret (?_))))))))))
    )
  all_goals first | refine blk_normal ?_ | refine blk_ret ?_
  all_goals first
  | refine aft_ret ?_
  | (
   refine aft_normal ?_
   refine wc_region (w_ (b_ (h:=w_ (m_ (h:=wo_nil (e_ (h:=?_)))))))
   )
  )
 all_goals first
 | (refine (ih (i + 1) (by omega) ?_ _ ?_).trans ?_;(focus (first | omega | (simp;done) | (simp;omega)));(focus (simp [normE,hw];done));(focus (rcases i with _ | _ | i <;> simp at * <;> grind)))
 | (apply end_leaf (ex:=Ext.ret) 1 (some [2,3]);(focus (simp [normE];rfl));(focus (rcases i with _ | _ | i <;> simp at * <;> grind)))
 | (apply end_leaf (ex:=(Ext.exit 0)) 1 (some [2,3]);(focus (simp [normE];rfl));(focus (simp)))
theorem e_or (a b : Int) : oc.call 233 [.lst false 0 (ints [a,b])] = some (.int .i64 (if a = 0 then b else a),[]) := by
 refine fun_s rfl cd233 rfl rfl rfl (by simp;rfl) (by simp;rfl) ?_
 refine wa_ (wc_region (w_ (a_ (h:=wo_nil (e_ (h:=aft_normal (wa_ (wc_region (w_ (a_ (h:=wo_nil (e_ (h:=aft_normal (wa_ (wa_ (?_))))))))))))))))
 refine wc_region (w_ (m_ (h:=w_ (le (h:=w_ (m_ (h:=wo_nil (e_ (h:=aft_normal (wc_block (?_)))))))))))
 refine wc_loopI (l_or a b 0 (by omega) _ (by simp [normE])) ?_ ?_
 rotate_right 1
 focus
  intro c1
  skip
 rotate_right 1
 focus
  intro c1
  skip
 all_goals first | refine blk_ret ?_ | refine blk_exit ?_
 all_goals first
 | refine aft_ret ?_
 | (
  refine aft_normal ?_
  refine wa_ (wc_region (w_ (m_ (h:=w_ (a_ (h:=wo_nil (e_ (h:=aft_normal (wc_ret (?_))))))))))
  )
 all_goals (refine fin_ (hr:=(res_tmp rfl res_nil)) (h:=?_);(focus (simp at * <;> grind)))
def byC (a b : Ct) : Int := if cmpI a.pl b.pl = 0 then cmpI a.ep b.ep else cmpI a.pl b.pl
theorem e_byC (a b : Ct) : oc.call 202 [a.v,b.v] = some (.int .i64 (byC a b),[]) := by
 refine fun_s rfl cd202 rfl rfl rfl (by simp;rfl) (by simp;rfl) ?_
 refine wa_ (wc_region (w_ (bx (h:=w_ (bx (h:=w_ (a_ (h:=wo_nil (e_ (h:=aft_normal (wa_ (wc_draw (y_ (f_ (h:=ax_ (h:=y_ (l_ (h:=ax_ (h:=y_ (f_ (h:=ax_ (h:=?_))))))))))))))))))))))
 refine y_ (l_ (h:=ax_ (h:=y_ (ca (hc:=e_cmp _ _) (h:=ax_ (h:=y_ (f_ (h:=ax_ (h:=y_ (l_ (h:=ax_ (h:=y_ (f_ (h:=ax_ (h:=y_ (l_ (h:=ax_ (h:=y_ (ca (hc:=e_cmp _ _) (h:=ax_ (h:=y_ (bs (h:=ax_ (h:=y_ (ca (hc:=e_or _ _) (h:=ax_ (h:=y_ (a_ (h:=ax_ (h:=wo_nil (ed (h:=aft_normal (?_)))))))))))))))))))))))))))))))))
 refine wc_ret (?_)
 all_goals (refine fin_ (hr:=(res_tmp rfl res_nil)) (h:=?_);(focus (simp [byC])))
def ahead (a b : Ct) : Bool := if a.pl = b.pl then decide (a.ep < b.ep) else decide (a.pl < b.pl)
theorem e_ahead (a b : Ct) : oc.call 207 [a.v,b.v] = some (.bool (ahead a b),[]) := by
 refine fun_s rfl cd207 rfl rfl rfl (by simp;rfl) (by simp;rfl) ?_
 refine wa_ (wc_region (w_ (bx (h:=w_ (bx (h:=w_ (a_ (h:=wo_nil (e_ (h:=aft_normal (wa_ (wa_ (wc_region (w_ (f_ (h:=w_ (l_ (h:=?_))))))))))))))))))
 refine w_ (f_ (h:=w_ (l_ (h:=w_ (bE (h:=wo_nil (e_ (h:=aft_normal (?_)))))))))
 refine c_ (h1:=?_) (h2:=?_)
 rotate_right 1
 focus
  intro c1
  refine wc_skip (?_)
 rotate_right 1
 focus
  intro c1
  refine wa_ (wc_region (w_ (f_ (h:=w_ (l_ (h:=w_ (f_ (h:=w_ (l_ (h:=w_ (b_ (h:=w_ (a_ (h:=wo_nil (e_ (h:=aft_normal (wc_ret (?_))))))))))))))))))
 all_goals first
 | refine aft_ret ?_
 | (
  refine aft_normal ?_
  refine wa_ (wc_region (w_ (f_ (h:=w_ (l_ (h:=w_ (f_ (h:=w_ (l_ (h:=w_ (b_ (h:=w_ (a_ (h:=wo_nil (e_ (h:=aft_normal (wc_ret (?_))))))))))))))))))
  )
 all_goals (refine fin_ (hr:=(res_tmp rfl res_nil)) (h:=?_);(focus (simp [ahead] at * <;> grind)))
theorem byC_ahead (a b : Ct) : (0 ≤ byC a b) = (ahead a b = false) := by
  simp only [byC,cmpI,ahead];grind
theorem ahead_f {a b : Ct} (h : 0 ≤ byC a b) : ahead a b = false := by rw [byC_ahead] at h;exact h
theorem ahead_t {a b : Ct} (h : byC a b < 0) : ahead a b = true := by
  cases h2 : ahead a b with
  | true => rfl
  | false => rw [← byC_ahead] at h2;omega
def rightC (pl : List Nd) (c : Ct) : Bool := isPl pl c.pl && (inI c.ep 0 1000 && inI c.n (-1000000000000) 1000000000000)
theorem e_isCount (pl : List Nd) (c : Ct) (hp : pl.length < 2000000) : oc.call 125 [.lst false 0 (nds false 0 pl),c.v] = some (.bool (rightC pl c),[]) := by
 refine fun_s rfl cd125 rfl rfl rfl (by simp;rfl) (by simp;rfl) ?_
 refine wa_ (wc_region (w_ (bx (h:=w_ (a_ (h:=wo_nil (e_ (h:=aft_normal (wa_ (wc_region (w_ (m_ (h:=w_ (f_ (h:=w_ (l_ (h:=w_ (ca (hc:=e_isPlace pl _ hp) (h:=?_)))))))))))))))))))
 refine w_ (m_ (h:=?_))
 refine gw_ (h1:=?_) (h2:=?_)
 rotate_right 1
 focus
  intro c1
  refine go_ (h:=go_ (h:=go_ (h:=?_)))
 rotate_right 1
 focus
  intro c1
  refine g_ (h:=w_ (f_ (h:=g_ (h:=w_ (l_ (h:=g_ (h:=w_ (ca (hc:=e_in _ _ _) (h:=?_)))))))))
 all_goals
  refine w_ (pk (h:=w_ (m_ (h:=?_))))
  refine gw_ (h1:=?_) (h2:=?_)
  rotate_right 1
  focus
   intro c2
   refine go_ (h:=go_ (h:=go_ (h:=?_)))
  rotate_right 1
  focus
   intro c2
   refine g_ (h:=w_ (f_ (h:=g_ (h:=w_ (l_ (h:=g_ (h:=w_ (ca (hc:=e_isWeight _) (h:=?_)))))))))
  all_goals
   refine w_ (pk (h:=w_ (a_ (h:=wo_nil (e_ (h:=?_))))))
 all_goals first
 | (
  refine aft_normal ?_
  refine wc_ret (?_)
  )
 all_goals (refine fin_ (hr:=(res_tmp rfl res_nil)) (h:=?_);(focus (simp [rightC] at * <;> grind)))
theorem e_l7Right (pl : List Nd) (c : Ct) (hp : pl.length < 2000000) : oc.call 128 [.lst false 0 (nds false 0 pl),c.v] = some (.bool (rightC pl c),[]) := by
 refine fun_s rfl cd128 rfl rfl rfl (by simp;rfl) (by simp;rfl) ?_
 refine wa_ (wc_region (w_ (bx (h:=w_ (a_ (h:=wo_nil (e_ (h:=aft_normal (wa_ (wc_region (w_ (m_ (h:=w_ (f_ (h:=w_ (l_ (h:=w_ (ca (hc:=e_l7Place pl _ hp) (h:=?_)))))))))))))))))))
 refine w_ (m_ (h:=?_))
 refine gw_ (h1:=?_) (h2:=?_)
 rotate_right 1
 focus
  intro c1
  refine go_ (h:=go_ (h:=go_ (h:=?_)))
 rotate_right 1
 focus
  intro c1
  refine g_ (h:=w_ (f_ (h:=g_ (h:=w_ (l_ (h:=g_ (h:=w_ (ca (hc:=e_l1In _ _ _) (h:=?_)))))))))
 all_goals
  refine w_ (pk (h:=w_ (m_ (h:=?_))))
  refine gw_ (h1:=?_) (h2:=?_)
  rotate_right 1
  focus
   intro c2
   refine go_ (h:=go_ (h:=go_ (h:=?_)))
  rotate_right 1
  focus
   intro c2
   refine g_ (h:=w_ (f_ (h:=g_ (h:=w_ (l_ (h:=g_ (h:=w_ (ca (hc:=e_l1Weight _) (h:=?_)))))))))
  all_goals
   refine w_ (pk (h:=w_ (a_ (h:=wo_nil (e_ (h:=?_))))))
 all_goals first
 | (
  refine aft_normal ?_
  refine wc_ret (?_)
  )
 all_goals (refine fin_ (hr:=(res_tmp rfl res_nil)) (h:=?_);(focus (simp [rightC] at * <;> grind)))
def ctsR (pl : List Nd) : Option Ct → List Ct → Int
  | _,[] => 0
  | p,c :: r => if rightC pl c = false ∨ c.n = 0 then 3 else if (p.elim false fun q => !ahead q c) = true then 1 else ctsR pl (some c) r
def prevAt (l : List Ct) (i : Nat) : Option Ct := if i = 0 then none else l[i - 1]?
theorem prevAt_succ {l : List Ct} {i : Nat} {c : Ct} (h : l[i]? = some c) : prevAt l (i + 1) = some c := by simp [prevAt,h]
theorem prevAt_pos {l : List Ct} {i : Nat} (h0 : 0 < i) (h : i ≤ l.length) (hi : i < 2000000000) : ∃ q,prevAt l i = some q ∧ (cts l)[(IntKind.i64.wrap ((i : Int) - 1)).toNat]? = some q.v ∧ 0 ≤ IntKind.i64.wrap ((i : Int) - 1) := by
  have hw : IntKind.i64.wrap ((i : Int) - 1) = ((i - 1 : Nat) : Int) := by rw [wrap_id (by omega) (by omega)];omega
  have hlt : i - 1 < l.length := by omega
  refine ⟨l[i - 1],?_,?_,by rw [hw];omega⟩
  · unfold prevAt;rw [if_neg (by omega)];simp [hlt]
  · rw [hw];exact cts_at hlt
def ctsF (pl : List Nd) (l : List Ct) : Int := if 200 < l.length then 2 else ctsR pl none l
theorem ctsR_3 {pl : List Nd} {p : Option Ct} {c : Ct} {r : List Ct} (h : rightC pl c = false ∨ c.n = 0) : ctsR pl p (c :: r) = 3 := by rw [ctsR,if_pos h]
theorem ctsR_1 {pl : List Nd} {p : Option Ct} {c : Ct} {r : List Ct} (h : ¬ (rightC pl c = false ∨ c.n = 0)) (h2 : (p.elim false fun q => !ahead q c) = true) : ctsR pl p (c :: r) = 1 := by rw [ctsR,if_neg h,if_pos h2]
theorem ctsR_0 {pl : List Nd} {p : Option Ct} {c : Ct} {r : List Ct} (h : ¬ (rightC pl c = false ∨ c.n = 0)) (h2 : ¬ (p.elim false fun q => !ahead q c) = true) : ctsR pl p (c :: r) = ctsR pl (some c) r := by rw [ctsR,if_neg h,if_neg h2]
theorem l_ctsI (pl : List Nd) (l : List Ct) (hp : pl.length < 2000000) (hl : l.length ≤ 200) : ∀ i : Nat,(i ≤ l.length) → ∀ s,normE 2 (some [0,1,10,11,12]) s = ⟨[(0,.lst false 0 (nds false 0 pl)),(1,.lst false 0 (cts l)),(10,.lst false 0 (cts l)),(11,.int .i64 l.length),(12,.int .i64 i)],[],2⟩ →
 oc.loop 130 4 s = some (if ctsR pl (prevAt l i) (l.drop i) = 0 then (.exit 0,⟨[],[],2⟩) else (.ret,⟨[(4,.int .i64 (ctsR pl (prevAt l i) (l.drop i)))],[],2⟩)) := by
 refine loop_ind (σ:=Nat) (fun i => l.length - i) _ (fun i => ⟨[(0,.lst false 0 (nds false 0 pl)),(1,.lst false 0 (cts l)),(10,.lst false 0 (cts l)),(11,.int .i64 l.length),(12,.int .i64 i)],[],2⟩) _ ?_
 intro i hi ih s hs
 refine loop_s cd130 rfl rfl hs ?_
 refine wa_ (wc_region (w_ (b_ (h:=wo_nil (e_ (h:=aft_normal (wa_ (?_))))))))
 refine c_ (h1:=?_) (h2:=?_)
 rotate_right 1
 focus
  intro c1
  first
  | exact dn c1
  | (
   have d1 := c1;try simp at d1
   refine wc_exit (?_)
   )
 rotate_right 1
 focus
  intro c1
  first
  | exact dn c1
  | (
   have d1 := c1;try simp at d1
   have hw := wrap_succ (i:=i) (by omega);obtain ⟨c,hx,e1,g1⟩ := cts_cut (l:=l) (i:=i) (by omega);have hs1 := prevAt_succ hx
   refine wc_skip (?_)
   )
 all_goals first
 | refine aft_exit ?_
 | (
  refine aft_normal ?_
  refine wa_ (wc_block (wa_ (wc_region (w_ (m_ (h:=w_ (x_ (h:=w_ (l_ (h:=w_ (al (h:=w_ (a_ (h:=w0 (s_ (h:=wo_nil (e_ (h:=aft_normal (?_)))))))))))))))))))
  refine wa_ (wa_ (wc_region (w_ (m_ (h:=w_ (l_ (h:=w_ (ca (hc:=e_isCount pl c hp) (h:=w_ (u_ (h:=w_ (m_ (h:=?_)))))))))))))
  refine gw_ (h1:=?_) (h2:=?_)
  rotate_right 1
  focus
   intro c2
   first
   | exact dn c2
   | (
    have d2 := c2;try simp at d2
    refine go_ (h:=go_ (h:=go_ (h:=?_)))
    )
  rotate_right 1
  focus
   intro c2
   first
   | exact dn c2
   | (
    have d2 := c2;try simp at d2
    refine g_ (h:=w_ (f_ (h:=g_ (h:=w_ (l_ (h:=g_ (h:=w_ (bE (h:=?_)))))))))
    )
  all_goals
   refine w_ (pk (h:=wo_nil (e_ (h:=?_))))
  all_goals first
  | (
   refine aft_normal ?_
   refine c_ (h1:=?_) (h2:=?_)
   rotate_right 1
   focus
    intro c3
    first
    | exact dn c3
    | (
     have d3 := c3;try simp at d3
     refine wc_skip (?_)
     )
   rotate_right 1
   focus
    intro c3
    first
    | exact dn c3
    | (
     have d3 := c3;try simp at d3
     refine wa_ (wc_region (w_ (a_ (h:=wo_nil (e_ (h:=aft_normal (wc_ret (?_))))))))
     )
   )
  all_goals first
  | refine aft_ret ?_
  | (
   refine aft_normal ?_
   refine wa_ (wc_draw (y_ (m_ (h:=ax_ (h:=y_ (b_ (h:=ax_ (h:=y_ (m_ (h:=ax_ (h:=?_)))))))))))
   refine gw_ (h1:=?_) (h2:=?_)
   rotate_right 1
   focus
    intro c4
    first
    | exact dn c4
    | (
     have d4 := c4;try simp at d4
     refine gd_ (h:=gd_ (h:=gd_ (h:=gd_ (h:=gd_ (h:=gd_ (h:=gd_ (h:=gd_ (h:=?_))))))))
     )
   rotate_right 1
   focus
    intro c4
    first
    | exact dn c4
    | (
     have d4 := c4;try simp at d4
     obtain ⟨q,hq,g2,g3⟩ := prevAt_pos (l:=l) (i:=i) (by omega) (by omega) (by omega)
     refine g_ (h:=y_ (m_ (h:=ax_ (h:=g_ (h:=y_ (m_ (h:=ax_ (h:=g_ (h:=y_ (b_ (h:=ax_ (h:=g_ (h:=y_ (x_ (h:=ax_ (h:=g_ (h:=y_ (l_ (h:=ax_ (h:=g_ (h:=y_ (l_ (h:=ax_ (h:=g_ (h:=y_ (ca (hc:=e_byC q c) (h:=ax_ (h:=g_ (h:=y_ (b_ (h:=ax_ (h:=?_))))))))))))))))))))))))))))))))
     )
   all_goals
    refine y_ (pk (h:=ax_ (h:=wo_nil (ed (h:=?_)))))
   all_goals first
   | (
    refine aft_normal ?_
    refine c_ (h1:=?_) (h2:=?_)
    rotate_right 1
    focus
     intro c5
     first
     | exact dn c5
     | (
      have d5 := c5;try simp at d5
      refine wc_skip (?_)
      )
    rotate_right 1
    focus
     intro c5
     first
     | exact dn c5
     | (
      have d5 := c5;try simp at d5
      refine wa_ (wc_region (w_ (a_ (h:=wo_nil (e_ (h:=aft_normal (wc_ret (?_))))))))
      )
    )
   )
  all_goals first | refine blk_normal ?_ | refine blk_ret ?_
  all_goals first
  | refine aft_ret ?_
  | (
   refine aft_normal ?_
   refine wc_region (w_ (b_ (h:=w_ (m_ (h:=wo_nil (e_ (h:=?_)))))))
   )
  )
 all_goals first
 | (refine (ih (i + 1) (by omega) ?_ _ ?_).trans ?_;(focus (first | omega | (simp;done) | (simp;omega)));(focus (simp [normE,hw];done));(focus (rw [hs1,e1,ctsR_0 (by simp [d2,d3]) (by first | (rw [hq];simp [ahead_t d5];done) | (subst d4;simp [prevAt]))])))
 | (apply end_leaf (ex:=Ext.ret) 2 (some [4]);(focus (simp [normE];rfl));(focus (rw [e1,ctsR_3 (by first | exact .inl d2 | exact .inr d3)];simp)))
 | (apply end_leaf (ex:=Ext.ret) 2 (some [4]);(focus (simp [normE];rfl));(focus (rw [e1,ctsR_1 (by simp [d2,d3]) (by rw [hq];simp [ahead_f d5])];simp)))
 | (apply end_leaf (ex:=(Ext.exit 0)) 2 (some [4]);(focus (simp [normE];rfl));(focus (rw [List.drop_eq_nil_of_le (by omega)];simp [ctsR])))
theorem e_ctsF (pl : List Nd) (l : List Ct) (hp : pl.length < 2000000) : oc.call 130 [.lst false 0 (nds false 0 pl),.lst false 0 (cts l)] = some (.int .i64 (ctsF pl l),[]) := by
 refine fun_s rfl cd130 rfl rfl rfl (by simp;rfl) (by simp;rfl) ?_
 refine wa_ (wc_region (w_ (a_ (h:=wo_nil (e_ (h:=aft_normal (wa_ (wa_ (wc_region (w_ (m_ (h:=w_ (le (h:=w_ (b_ (h:=wo_nil (e_ (h:=?_))))))))))))))))))
 refine aft_normal (?_)
 refine c_ (h1:=?_) (h2:=?_)
 rotate_right 1
 focus
  intro c1
  first
  | exact dn c1
  | (
   have d1 := c1;try simp at d1
   refine wc_skip (?_)
   )
 rotate_right 1
 focus
  intro c1
  first
  | exact dn c1
  | (
   have d1 := c1;try simp at d1
   refine wa_ (wc_region (w_ (a_ (h:=wo_nil (e_ (h:=aft_normal (wc_ret (?_))))))))
   )
 all_goals first
 | refine aft_ret ?_
 | (
  refine aft_normal ?_
  refine wa_ (wa_ (wc_region (w_ (m_ (h:=w_ (le (h:=w_ (m_ (h:=wo_nil (e_ (h:=aft_normal (wc_block (?_)))))))))))))
  refine wc_loopI (l_ctsI pl l hp (by omega) 0 (by omega) _ (by simp [normE])) ?_ ?_
  rotate_right 1
  focus
   intro c2
   first
   | exact dn c2
   | (
    have d2 := c2;try simp at d2
    skip
    )
  rotate_right 1
  focus
   intro c2
   first
   | exact dn c2
   | (
    have d2 := c2;try simp at d2
    skip
    )
  all_goals first | refine blk_ret ?_ | refine blk_exit ?_
  all_goals first
  | refine aft_ret ?_
  | (
   refine aft_normal ?_
   refine wa_ (wc_region (w_ (a_ (h:=wo_nil (e_ (h:=aft_normal (wc_ret (?_))))))))
   )
  )
 all_goals (refine fin_ (hr:=(res_tmp rfl res_nil)) (h:=?_);(focus (simp [ctsF,prevAt] at * <;> grind)))
theorem l_ctsS (pl : List Nd) (l : List Ct) (hp : pl.length < 2000000) (hl : l.length ≤ 200) : ∀ i : Nat,(i ≤ l.length) → ∀ s,normE 2 (some [0,1,6]) s = ⟨[(0,.lst false 0 (nds false 0 pl)),(1,.lst false 0 (cts l)),(6,.int .i64 i)],[],2⟩ →
 oc.loop 127 7 s = some (if ctsR pl (prevAt l i) (l.drop i) = 0 then (.exit 0,⟨[],[],2⟩) else (.ret,⟨[(4,.int .i64 (ctsR pl (prevAt l i) (l.drop i)))],[],2⟩)) := by
 refine loop_ind (σ:=Nat) (fun i => l.length - i) _ (fun i => ⟨[(0,.lst false 0 (nds false 0 pl)),(1,.lst false 0 (cts l)),(6,.int .i64 i)],[],2⟩) _ ?_
 intro i hi ih s hs
 refine loop_s cd127 rfl rfl hs ?_
 refine wa_ (wa_ (wc_region (w_ (m_ (h:=w_ (m_ (h:=w_ (le (h:=w_ (b_ (h:=wo_nil (e_ (h:=aft_normal (?_))))))))))))))
 refine c_ (h1:=?_) (h2:=?_)
 rotate_right 1
 focus
  intro c1
  first
  | exact dn c1
  | (
   have d1 := c1;try simp at d1
   refine wc_exit (?_)
   )
 rotate_right 1
 focus
  intro c1
  first
  | exact dn c1
  | (
   have d1 := c1;try simp at d1
   have hw := wrap_succ (i:=i) (by omega);obtain ⟨c,hx,e1,g1⟩ := cts_cut (l:=l) (i:=i) (by omega);have hs1 := prevAt_succ hx
   refine wc_skip (?_)
   )
 all_goals first
 | refine aft_exit ?_
 | (
  refine aft_normal ?_
  refine wa_ (wc_block (wa_ (wa_ (wc_region (w_ (m_ (h:=w_ (m_ (h:=w_ (m_ (h:=w_ (x_ (h:=w_ (l_ (h:=w_ (ca (hc:=e_l7Right pl c hp) (h:=w_ (u_ (h:=?_)))))))))))))))))))
  refine w_ (m_ (h:=?_))
  refine gw_ (h1:=?_) (h2:=?_)
  rotate_right 1
  focus
   intro c2
   first
   | exact dn c2
   | (
    have d2 := c2;try simp at d2
    refine go_ (h:=go_ (h:=go_ (h:=go_ (h:=go_ (h:=go_ (h:=?_))))))
    )
  rotate_right 1
  focus
   intro c2
   first
   | exact dn c2
   | (
    have d2 := c2;try simp at d2
    refine g_ (h:=w_ (m_ (h:=g_ (h:=w_ (m_ (h:=g_ (h:=w_ (x_ (h:=g_ (h:=w_ (f_ (h:=g_ (h:=w_ (l_ (h:=g_ (h:=w_ (bE (h:=?_))))))))))))))))))
    )
  all_goals
   refine w_ (pk (h:=wo_nil (e_ (h:=?_))))
  all_goals first
  | (
   refine aft_normal ?_
   refine c_ (h1:=?_) (h2:=?_)
   rotate_right 1
   focus
    intro c3
    first
    | exact dn c3
    | (
     have d3 := c3;try simp at d3
     refine wc_skip (?_)
     )
   rotate_right 1
   focus
    intro c3
    first
    | exact dn c3
    | (
     have d3 := c3;try simp at d3
     refine wa_ (wc_region (w_ (a_ (h:=wo_nil (e_ (h:=aft_normal (wc_ret (?_))))))))
     )
   )
  all_goals first
  | refine aft_ret ?_
  | (
   refine aft_normal ?_
   refine wa_ (wc_draw (y_ (m_ (h:=ax_ (h:=y_ (b_ (h:=ax_ (h:=y_ (m_ (h:=ax_ (h:=?_)))))))))))
   refine gw_ (h1:=?_) (h2:=?_)
   rotate_right 1
   focus
    intro c4
    first
    | exact dn c4
    | (
     have d4 := c4;try simp at d4
     refine gd_ (h:=gd_ (h:=gd_ (h:=gd_ (h:=gd_ (h:=gd_ (h:=gd_ (h:=gd_ (h:=gd_ (h:=gd_ (h:=gd_ (h:=?_)))))))))))
     )
   rotate_right 1
   focus
    intro c4
    first
    | exact dn c4
    | (
     have d4 := c4;try simp at d4
     obtain ⟨q,hq,g2,g3⟩ := prevAt_pos (l:=l) (i:=i) (by omega) (by omega) (by omega)
     refine g_ (h:=y_ (m_ (h:=ax_ (h:=g_ (h:=y_ (m_ (h:=ax_ (h:=g_ (h:=y_ (b_ (h:=ax_ (h:=g_ (h:=y_ (x_ (h:=ax_ (h:=g_ (h:=y_ (l_ (h:=ax_ (h:=g_ (h:=y_ (m_ (h:=ax_ (h:=g_ (h:=y_ (m_ (h:=ax_ (h:=g_ (h:=y_ (x_ (h:=ax_ (h:=g_ (h:=y_ (l_ (h:=ax_ (h:=g_ (h:=y_ (ca (hc:=e_ahead q c) (h:=ax_ (h:=g_ (h:=y_ (u_ (h:=ax_ (h:=?_))))))))))))))))))))))))))))))))))))))))))))
     )
   all_goals
    refine y_ (pk (h:=ax_ (h:=wo_nil (ed (h:=?_)))))
   all_goals first
   | (
    refine aft_normal ?_
    refine c_ (h1:=?_) (h2:=?_)
    rotate_right 1
    focus
     intro c5
     first
     | exact dn c5
     | (
      have d5 := c5;try simp at d5
      refine wc_skip (?_)
      )
    rotate_right 1
    focus
     intro c5
     first
     | exact dn c5
     | (
      have d5 := c5;try simp at d5
      refine wa_ (wc_region (w_ (a_ (h:=wo_nil (e_ (h:=aft_normal (wc_ret (?_))))))))
      )
    )
   )
  all_goals first | refine blk_normal ?_ | refine blk_ret ?_
  all_goals first
  | refine aft_ret ?_
  | (
   refine aft_normal ?_
   refine wc_region (w_ (m_ (h:=w_ (b_ (h:=w_ (a_ (h:=wo_nil (e_ (h:=?_)))))))))
   )
  )
 all_goals first
 | (refine (ih (i + 1) (by omega) ?_ _ ?_).trans ?_;(focus (first | omega | (simp;done) | (simp;omega)));(focus (simp [normE,hw];done));(focus (rw [hs1,e1,ctsR_0 (by simp [d2,d3]) (by first | (rw [hq];simp [d5];done) | (subst d4;simp [prevAt]))])))
 | (apply end_leaf (ex:=Ext.ret) 2 (some [4]);(focus (simp [normE];rfl));(focus (rw [e1,ctsR_3 (by first | exact .inl d2 | exact .inr d3)];simp)))
 | (apply end_leaf (ex:=Ext.ret) 2 (some [4]);(focus (simp [normE];rfl));(focus (rw [e1,ctsR_1 (by simp [d2,d3]) (by rw [hq];simp [d5])];simp)))
 | (apply end_leaf (ex:=(Ext.exit 0)) 2 (some [4]);(focus (simp [normE];rfl));(focus (rw [List.drop_eq_nil_of_le (by omega)];simp [ctsR])))
def ctsN (pl : List Nd) (l : List Ct) : Int := if (lookN pl).2 = 0 then ctsF pl l else (lookN pl).2
theorem e_ctsFS (pl : List Nd) (l : List Ct) (hp : pl.length < 2000000) (hk : okN pl) : oc.call 127 [.lst false 0 (nds false 0 pl),.lst false 0 (cts l)] = some (.int .i64 (ctsN pl l),[]) := by
 refine fun_s rfl cd127 rfl rfl rfl (by simp;rfl) (by simp;rfl) ?_
 refine wa_ (wc_region (w_ (a_ (h:=wo_nil (e_ (h:=aft_normal (wa_ (wa_ (wc_region (w_ (m_ (h:=w_ (ca (hc:=e_planS pl hp hk) (h:=w_ (a_ (h:=wo_nil (e_ (h:=?_))))))))))))))))))
 refine aft_normal (wa_ (wc_region (w_ (m_ (h:=w_ (bE (h:=wo_nil (e_ (h:=aft_normal (?_))))))))))
 refine c_ (h1:=?_) (h2:=?_)
 rotate_right 1
 focus
  intro c1
  first
  | exact dn c1
  | (
   have d1 := c1;try simp at d1
   refine wc_skip (?_)
   )
 rotate_right 1
 focus
  intro c1
  first
  | exact dn c1
  | (
   have d1 := c1;try simp at d1
   refine wa_ (wc_region (w_ (m_ (h:=w_ (a_ (h:=wo_nil (e_ (h:=aft_normal (wc_ret (?_))))))))))
   )
 all_goals first
 | refine aft_ret ?_
 | (
  refine aft_normal ?_
  refine wa_ (wa_ (wc_region (w_ (m_ (h:=w_ (le (h:=w_ (b_ (h:=wo_nil (e_ (h:=aft_normal (?_))))))))))))
  refine c_ (h1:=?_) (h2:=?_)
  rotate_right 1
  focus
   intro c2
   first
   | exact dn c2
   | (
    have d2 := c2;try simp at d2
    refine wc_skip (?_)
    )
  rotate_right 1
  focus
   intro c2
   first
   | exact dn c2
   | (
    have d2 := c2;try simp at d2
    refine wa_ (wc_region (w_ (a_ (h:=wo_nil (e_ (h:=aft_normal (wc_ret (?_))))))))
    )
  all_goals first
  | refine aft_ret ?_
  | (
   refine aft_normal ?_
   refine wa_ (wa_ (wc_region (w_ (a_ (h:=wo_nil (e_ (h:=aft_normal (wc_block (?_)))))))))
   refine wc_loopI (l_ctsS pl l hp (by omega) 0 (by omega) _ (by simp [normE])) ?_ ?_
   rotate_right 1
   focus
    intro c3
    first
    | exact dn c3
    | (
     have d3 := c3;try simp at d3
     skip
     )
   rotate_right 1
   focus
    intro c3
    first
    | exact dn c3
    | (
     have d3 := c3;try simp at d3
     skip
     )
   all_goals first | refine blk_ret ?_ | refine blk_exit ?_
   all_goals first
   | refine aft_ret ?_
   | (
    refine aft_normal ?_
    refine wa_ (wc_region (w_ (a_ (h:=wo_nil (e_ (h:=aft_normal (wc_ret (?_))))))))
    )
   )
  )
 all_goals (refine fin_ (hr:=(res_tmp rfl res_nil)) (h:=?_);(focus (clear hk;simp [ctsN,ctsF,prevAt] at * <;> grind)))
theorem e_ctsFI (pl : List Nd) (l : List Ct) (hp : pl.length < 2000000) (hk : okN pl) : oc.call 52 [.lst false 0 (nds false 0 pl),.lst false 0 (cts l)] = some (.int .i64 (ctsN pl l),[]) := by
 refine fun_s rfl cd52 rfl rfl rfl (by simp;rfl) (by simp;rfl) ?_
 refine wa_ (wc_region (w_ (a_ (h:=wo_nil (e_ (h:=aft_normal (wa_ (wa_ (wc_region (w_ (m_ (h:=w_ (ca (hc:=e_planI pl hp hk) (h:=w_ (a_ (h:=wo_nil (e_ (h:=?_))))))))))))))))))
 refine aft_normal (wa_ (wc_region (w_ (m_ (h:=w_ (bE (h:=wo_nil (e_ (h:=aft_normal (?_))))))))))
 refine c_ (h1:=?_) (h2:=?_)
 rotate_right 1
 focus
  intro c1
  first
  | exact dn c1
  | (
   have d1 := c1;try simp at d1
   refine wc_skip (?_)
   )
 rotate_right 1
 focus
  intro c1
  first
  | exact dn c1
  | (
   have d1 := c1;try simp at d1
   refine wa_ (wc_region (w_ (m_ (h:=w_ (a_ (h:=wo_nil (e_ (h:=aft_normal (wc_ret (?_))))))))))
   )
 all_goals first
 | refine aft_ret ?_
 | (
  refine aft_normal ?_
  refine wa_ (wc_region (w_ (m_ (h:=w_ (m_ (h:=w_ (ca (hc:=e_ctsF pl l hp) (h:=w_ (a_ (h:=wo_nil (e_ (h:=aft_normal (wc_ret (?_))))))))))))))
  )
 all_goals (refine fin_ (hr:=(res_tmp rfl res_nil)) (h:=?_);(focus (clear hk;simp [ctsN] at * <;> grind)))
end Go.Proofs.Ytgkbmiaimjpbfaa.Ev
namespace Go.Proofs.Ytgkbmiaimjpbfaa.Ev
open Go
set_option maxRecDepth 100000
set_option linter.unusedSimpArgs false
set_option linter.unusedVariables false
set_option maxHeartbeats 2000000
end Go.Proofs.Ytgkbmiaimjpbfaa.Ev
namespace Go.Proofs.Ytgkbmiaimjpbfaa.Ev
open Go
set_option maxRecDepth 100000
set_option linter.unusedSimpArgs false
set_option linter.unusedVariables false
set_option maxHeartbeats 2000000
end Go.Proofs.Ytgkbmiaimjpbfaa.Ev
namespace Go.Proofs.Ytgkbmiaimjpbfaa.Ev
open Go
set_option maxRecDepth 100000
set_option linter.unusedSimpArgs false
set_option linter.unusedVariables false
set_option maxHeartbeats 2000000
theorem cellsAll_map {α : Type} {f : α → V} {k : Nat} (h : ∀ x,(f x).cells = k) : ∀ l : List α,V.cellsAll k (l.map f) = true
  | [] => rfl
  | x :: l => by simp only [List.map_cons,V.cellsAll,List.all_cons,h,decide_true,Bool.true_and];exact cellsAll_map h l
@[simp] theorem cellsAll_ints (l : List Int) : V.cellsAll 1 (ints l) = true := cellsAll_map (f:=.int .i64) (fun _ => rfl) l
@[simp] theorem cellsAll_ets (t : Bool) (l : List Et) : V.cellsAll 2 (ets t l) = true := cellsAll_map (f:=Et.v t) (fun _ => rfl) l
@[simp] theorem cellsAll_cts (l : List Ct) : V.cellsAll 3 (cts l) = true := cellsAll_map (f:=Ct.v) (fun _ => rfl) l
@[simp] theorem cellsAll_frs (t : Bool) (l : List Fr) : V.cellsAll 6 (frs t l) = true := cellsAll_map (f:=Fr.v t) (fun _ => rfl) l
@[simp] theorem cellsAll_nds (t : Bool) (s : Nat) (l : List Nd) : V.cellsAll 7 (nds t s l) = true := cellsAll_map (f:=fun d : Nd => d.v t s) (fun _ => rfl) l
end Go.Proofs.Ytgkbmiaimjpbfaa.Ev
namespace Go.Proofs.Ytgkbmiaimjpbfaa.Ev
set_option linter.unusedSectionVars false
section
variable {α : Type} [Inhabited α]
def nth (l : List α) (i : Nat) : α := l[i]?.getD default
theorem nth_get {l : List α} {i : Nat} (h : i < l.length) : l[i]? = some (nth l i) := by
  unfold nth;rw [List.getElem?_eq_getElem h];rfl
theorem nth_set {l : List α} {i k : Nat} {x : α} (h : i < l.length) : nth (l.set i x) k = if k = i then x else nth l k := by
  unfold nth
  by_cases e : k = i
  · subst e;rw [if_pos rfl,List.getElem?_set_self h];rfl
  · rw [if_neg e,List.getElem?_set_ne (Ne.symm e)]
def swp (l : List α) (i j : Nat) : List α := (l.set i (nth l j)).set j (nth l i)
@[simp] theorem swp_len {l : List α} {i j : Nat} : (swp l i j).length = l.length := by simp [swp]
theorem swp_nth {l : List α} {i j k : Nat} (hi : i < l.length) (hj : j < l.length) : nth (swp l i j) k = if k = j then nth l i else if k = i then nth l j else nth l k := by
  unfold swp
  rw [nth_set (by simpa using hj),nth_set hi]
theorem swp_perm {l : List α} {i j : Nat} (hi : i < l.length) (hj : j < l.length) : (swp l i j).Perm l := by
  have h : ((l.set i l[j]).set j l[i]).Perm l := List.set_set_perm hi hj
  have e1 : nth l j = l[j] := by unfold nth;rw [List.getElem?_eq_getElem hj];rfl
  have e2 : nth l i = l[i] := by unfold nth;rw [List.getElem?_eq_getElem hi];rfl
  unfold swp;rw [e1,e2];exact h
structure Wit (a b : Nat) (l r : List α) : Prop where
  perm : r.Perm l
  out : ∀ k,k < a ∨ b ≤ k → nth r k = nth l k
  mem : ∀ k,a ≤ k → k < b → ∃ i,a ≤ i ∧ i < b ∧ nth r k = nth l i
theorem Wit.len {a b : Nat} {l r : List α} (h : Wit a b l r) : r.length = l.length := h.perm.length_eq
theorem Wit.refl (a b : Nat) (l : List α) : Wit a b l l := ⟨.refl _,fun _ _ => rfl,fun k h1 h2 => ⟨k,h1,h2,rfl⟩⟩
theorem Wit.trans {a b : Nat} {l m r : List α} (h1 : Wit a b l m) (h2 : Wit a b m r) : Wit a b l r :=
  ⟨h2.perm.trans h1.perm,fun k hk => (h2.out k hk).trans (h1.out k hk),fun k ha hb => by
    obtain ⟨i,hi1,hi2,e⟩ := h2.mem k ha hb
    obtain ⟨j,hj1,hj2,e2⟩ := h1.mem i hi1 hi2
    exact ⟨j,hj1,hj2,e.trans e2⟩⟩
theorem Wit.wide {a b a' b' : Nat} {l r : List α} (h : Wit a b l r) (ha : a' ≤ a) (hb : b ≤ b') : Wit a' b' l r :=
  ⟨h.perm,fun k hk => h.out k (by omega),fun k h1 h2 => by
    by_cases hk : a ≤ k ∧ k < b
    · obtain ⟨i,i1,i2,e⟩ := h.mem k hk.1 hk.2
      exact ⟨i,by omega,by omega,e⟩
    · exact ⟨k,h1,h2,h.out k (by omega)⟩⟩
theorem swp_wit {l : List α} {a b i j : Nat} (hb : b ≤ l.length) (hi : a ≤ i) (hi2 : i < b) (hj : a ≤ j) (hj2 : j < b) : Wit a b l (swp l i j) := by
  refine ⟨swp_perm (by omega) (by omega),fun k hk => ?_,fun k h1 h2 => ?_⟩
  · rw [swp_nth (by omega) (by omega),if_neg (by omega),if_neg (by omega)]
  · rw [swp_nth (by omega) (by omega)]
    split
    · exact ⟨i,hi,hi2,rfl⟩
    · split
      · exact ⟨j,hj,hj2,rfl⟩
      · exact ⟨k,h1,h2,rfl⟩
structure Ordr (lt : α → α → Bool) : Prop where
  asym : ∀ {x y},lt x y = true → lt y x = false
  ntr : ∀ {x y z},lt y x = false → lt z y = false → lt z x = false
def Srt (lt : α → α → Bool) (a b : Nat) (l : List α) : Prop := ∀ i j,a ≤ i → i ≤ j → j < b → lt (nth l j) (nth l i) = false
variable {lt : α → α → Bool}
theorem Ordr.rfl' (O : Ordr lt) (x : α) : lt x x = false := by
  cases h : lt x x
  · rfl
  · have := O.asym h;rw [h] at this;cases this
theorem Srt.sub {a b a' b' : Nat} {l : List α} (h : Srt lt a b l) (ha : a ≤ a') (hb : b' ≤ b) : Srt lt a' b' l := fun i j h1 h2 h3 => h i j (by omega) h2 (by omega)
theorem Srt.one (O : Ordr lt) {a b : Nat} {l : List α} (h : b ≤ a + 1) : Srt lt a b l := fun i j h1 h2 h3 => by
  obtain rfl : i = j := by omega
  exact O.rfl' _
theorem Srt.out {a b c d : Nat} {l r : List α} (h : Srt lt c d l) (w : Wit a b l r) (hd : d ≤ a ∨ b ≤ c) : Srt lt c d r := fun i j h1 h2 h3 => by
  rw [w.out i (by omega),w.out j (by omega)]
  exact h i j h1 h2 h3
def bub (lt : α → α → Bool) (a : Nat) : Nat → List α → List α
  | 0,l => l
  | j + 1,l => if a < j + 1 ∧ lt (nth l (j + 1)) (nth l j) = true then bub lt a j (swp l (j + 1) j) else l
theorem bub_wit {a b : Nat} : ∀ {j : Nat} {l : List α},b ≤ l.length → a ≤ j → j < b → Wit a b l (bub lt a j l)
  | 0,l,_,_,_ => Wit.refl ..
  | j + 1,l,hb,ha,hj => by
    unfold bub
    split
    · rename_i h
      have w := swp_wit (l:=l) (a:=a) (b:=b) (i:=j + 1) (j:=j) hb ha hj (by omega) (by omega)
      exact w.trans (bub_wit (by simpa using hb) (by omega) (by omega))
    · exact Wit.refl ..
theorem bub_srt (O : Ordr lt) {a b : Nat} : ∀ {j : Nat} {l : List α},b ≤ l.length → a ≤ j → j < b → (∀ i k,a ≤ i → i ≤ k → k < b → i ≠ j → k ≠ j → lt (nth l k) (nth l i) = false) → (∀ k,j ≤ k → k < b → lt (nth l k) (nth l j) = false) → Srt lt a b (bub lt a j l)
  | 0,l,hb,ha,hj,h1,h2 => by
    obtain rfl : a = 0 := by omega
    show Srt lt 0 b l
    intro i k hi hik hk
    by_cases e : i = 0
    · subst e;exact h2 k (by omega) hk
    · exact h1 i k hi hik hk e (by omega)
  | j + 1,l,hb,ha,hj,h1,h2 => by
    unfold bub
    split
    · rename_i h
      have hw : ∀ k,nth (swp l (j + 1) j) k = _ := fun k => swp_nth (l:=l) (i:=j + 1) (j:=j) (by omega) (by omega)
      refine bub_srt O (by simpa using hb) (by omega) (by omega) (fun i k hi hik hk e1 e2 => ?_) (fun k hjk hk => ?_)
      · rw [hw,hw,if_neg e1,if_neg e2]
        by_cases ek : k = j + 1
        · subst ek
          rw [if_pos rfl]
          by_cases ei : i = j + 1
          · subst ei;rw [if_pos rfl];exact O.rfl' _
          · rw [if_neg ei];exact h1 i j hi (by omega) (by omega) ei (by omega)
        · rw [if_neg ek]
          by_cases ei : i = j + 1
          · subst ei;rw [if_pos rfl];exact h1 j k (by omega) (by omega) hk (by omega) ek
          · rw [if_neg ei];exact h1 i k hi hik hk ei ek
      · rw [hw,hw,if_pos rfl]
        by_cases ek : k = j
        · subst ek;rw [if_pos rfl];exact O.rfl' _
        · rw [if_neg ek]
          by_cases ek2 : k = j + 1
          · subst ek2;rw [if_pos rfl];exact O.asym h.2
          · rw [if_neg ek2];exact h2 k (by omega) hk
    · rename_i h
      intro i k hi hik hk
      have hj1 : ∀ i,a ≤ i → i ≤ j → lt (nth l (j + 1)) (nth l i) = false := fun i hi hij => by
        have hn : lt (nth l (j + 1)) (nth l j) = false := by
          cases hc : lt (nth l (j + 1)) (nth l j)
          · rfl
          · exact absurd ⟨by omega,hc⟩ h
        by_cases e : i = j
        · subst e;exact hn
        · exact O.ntr (h1 i j hi (by omega) (by omega) (by omega) (by omega)) hn
      by_cases ek : k = j + 1
      · subst ek
        by_cases ei : i = j + 1
        · subst ei;exact O.rfl' _
        · exact hj1 i hi (by omega)
      · by_cases ei : i = j + 1
        · subst ei;exact h2 k (by omega) hk
        · exact h1 i k hi hik hk ei ek
def insL (lt : α → α → Bool) (a : Nat) : Nat → Nat → List α → List α
  | 0,_,l => l
  | n + 1,i,l => insL lt a n (i + 1) (bub lt a i l)
theorem insL_ok (O : Ordr lt) {a b : Nat} : ∀ {n i : Nat} {l : List α},i + n = b → a < i → b ≤ l.length → Srt lt a i l → Wit a b l (insL lt a n i l) ∧ Srt lt a b (insL lt a n i l)
  | 0,i,l,hn,ha,hb,hs => by
    obtain rfl : i = b := by omega
    exact ⟨Wit.refl ..,hs⟩
  | n + 1,i,l,hn,ha,hb,hs => by
    unfold insL
    have w := bub_wit (lt:=lt) (a:=a) (b:=i + 1) (j:=i) (l:=l) (by omega) (by omega) (by omega)
    have hs2 := bub_srt O (a:=a) (b:=i + 1) (j:=i) (l:=l) (by omega) (by omega) (by omega) (fun p q h1 h2 h3 e1 e2 => hs p q h1 h2 (by omega)) (fun k h1 h2 => by
      obtain rfl : k = i := by omega
      exact O.rfl' _)
    have hr := insL_ok O (a:=a) (b:=b) (n:=n) (i:=i + 1) (l:=bub lt a i l) (by omega) (by omega) (by rw [w.len];exact hb) hs2
    exact ⟨(w.wide (by omega) (by omega)).trans hr.1,hr.2⟩
def ins (lt : α → α → Bool) (a b : Nat) (l : List α) : List α := insL lt a (b - (a + 1)) (a + 1) l
theorem ins_ok (O : Ordr lt) {a b : Nat} {l : List α} (hb : b ≤ l.length) : Wit a b l (ins lt a b l) ∧ Srt lt a b (ins lt a b l) := by
  by_cases h : a + 1 ≤ b
  · exact insL_ok O (by omega) (by omega) hb (Srt.one O (by omega))
  · unfold ins
    rw [show b - (a + 1) = 0 by omega]
    exact ⟨Wit.refl ..,Srt.one O (by omega)⟩
def hlf (p : Nat → Bool) (i j : Nat) : Nat :=
  if h : i < j then if p ((i + j) / 2) = true then hlf p ((i + j) / 2 + 1) j else hlf p i ((i + j) / 2) else i
termination_by j - i
decreasing_by all_goals omega
theorem hlf_ok {p : Nat → Bool} : ∀ (i j : Nat),i ≤ j → i ≤ hlf p i j ∧ hlf p i j ≤ j ∧ ((∀ x y,i ≤ x → x ≤ y → y < j → p y = true → p x = true) → (∀ x,i ≤ x → x < hlf p i j → p x = true) ∧ ∀ x,hlf p i j ≤ x → x < j → p x = false) := by
  intro i j hij
  induction hd : j - i using Nat.strongRecOn generalizing i j with
  | _ d ih =>
    subst hd
    unfold hlf
    split
    · rename_i h
      split
      · rename_i hp
        obtain ⟨h1,h2,h3⟩ := ih (j - ((i + j) / 2 + 1)) (by omega) ((i + j) / 2 + 1) j (by omega) rfl
        refine ⟨by omega,h2,fun hm => ?_⟩
        obtain ⟨h4,h5⟩ := h3 (fun x y a b c d => hm x y (by omega) b c d)
        refine ⟨fun x a b => ?_,h5⟩
        by_cases e : (i + j) / 2 + 1 ≤ x
        · exact h4 x e b
        · exact hm x ((i + j) / 2) a (by omega) (by omega) hp
      · rename_i hp
        obtain ⟨h1,h2,h3⟩ := ih ((i + j) / 2 - i) (by omega) i ((i + j) / 2) (by omega) rfl
        refine ⟨h1,by omega,fun hm => ?_⟩
        obtain ⟨h4,h5⟩ := h3 (fun x y a b c d => hm x y a b (by omega) d)
        refine ⟨h4,fun x a b => ?_⟩
        by_cases e : x < (i + j) / 2
        · exact h5 x a e
        · cases hx : p x
          · rfl
          · exact absurd (hm ((i + j) / 2) x (by omega) (by omega) b hx) hp
    · refine ⟨by omega,by omega,fun hm => ⟨fun x a b => by omega,fun x a b => by omega⟩⟩
def mvU : Nat → Nat → List α → List α
  | 0,_,l => l
  | n + 1,k,l => mvU n (k + 1) (swp l k (k + 1))
def mvD : Nat → Nat → List α → List α
  | 0,_,l => l
  | n + 1,k,l => mvD n (k - 1) (swp l k (k - 1))
theorem mvU_ok : ∀ {n k : Nat} {l : List α},k + n < l.length → Wit k (k + n + 1) l (mvU n k l) ∧ (∀ i,k ≤ i → i < k + n → nth (mvU n k l) i = nth l (i + 1)) ∧ nth (mvU n k l) (k + n) = nth l k
  | 0,k,l,_ => ⟨Wit.refl ..,fun i _ _ => by omega,rfl⟩
  | n + 1,k,l,h => by
    have w := swp_wit (l:=l) (a:=k) (b:=k + 2) (i:=k) (j:=k + 1) (by omega) (by omega) (by omega) (by omega) (by omega)
    have hw : ∀ q,nth (swp l k (k + 1)) q = _ := fun q => swp_nth (l:=l) (i:=k) (j:=k + 1) (by omega) (by omega)
    obtain ⟨h1,h2,h3⟩ := mvU_ok (n:=n) (k:=k + 1) (l:=swp l k (k + 1)) (by simp;omega)
    show Wit _ _ _ (mvU n (k + 1) (swp l k (k + 1))) ∧ (∀ i,_ → _ → nth (mvU n (k + 1) (swp l k (k + 1))) i = _) ∧ nth (mvU n (k + 1) (swp l k (k + 1))) _ = _
    refine ⟨(w.wide (by omega) (by omega)).trans (h1.wide (by omega) (by omega)),fun i a b => ?_,?_⟩
    · by_cases e : i = k
      · subst e
        rw [h1.out i (by omega),hw,if_neg (by omega),if_pos rfl]
      · rw [h2 i (by omega) (by omega),hw,if_neg (by omega),if_neg (by omega)]
    · rw [show k + (n + 1) = k + 1 + n by omega,h3,hw,if_pos rfl]
theorem mvD_ok : ∀ {n k : Nat} {l : List α},n ≤ k → k < l.length → Wit (k - n) (k + 1) l (mvD n k l) ∧ (∀ i,k - n < i → i ≤ k → nth (mvD n k l) i = nth l (i - 1)) ∧ nth (mvD n k l) (k - n) = nth l k
  | 0,k,l,_,_ => ⟨Wit.refl ..,fun i _ _ => by omega,rfl⟩
  | n + 1,k,l,hn,h => by
    have w := swp_wit (l:=l) (a:=k - 1) (b:=k + 1) (i:=k) (j:=k - 1) (by omega) (by omega) (by omega) (by omega) (by omega)
    have hw : ∀ q,nth (swp l k (k - 1)) q = _ := fun q => swp_nth (l:=l) (i:=k) (j:=k - 1) (by omega) (by omega)
    obtain ⟨h1,h2,h3⟩ := mvD_ok (n:=n) (k:=k - 1) (l:=swp l k (k - 1)) (by omega) (by simp;omega)
    show Wit _ _ _ (mvD n (k - 1) (swp l k (k - 1))) ∧ (∀ i,_ → _ → nth (mvD n (k - 1) (swp l k (k - 1))) i = _) ∧ nth (mvD n (k - 1) (swp l k (k - 1))) _ = _
    refine ⟨(w.wide (by omega) (by omega)).trans (h1.wide (by omega) (by omega)),fun i a b => ?_,?_⟩
    · by_cases e : i = k
      · subst e
        rw [h1.out i (by omega),hw,if_neg (by omega),if_pos rfl]
      · rw [h2 i (by omega) (by omega),hw,if_neg (by omega),if_neg (by omega)]
    · rw [show k - (n + 1) = k - 1 - n by omega,h3,hw,if_pos rfl]
def swR : Nat → Nat → Nat → List α → List α
  | 0,_,_,l => l
  | n + 1,a,b,l => swR n (a + 1) (b + 1) (swp l a b)
theorem swR_ok : ∀ {n a b : Nat} {l : List α},a + n ≤ b → b + n ≤ l.length → (swR n a b l).Perm l ∧ ∀ k,nth (swR n a b l) k = if a ≤ k ∧ k < a + n then nth l (k - a + b) else if b ≤ k ∧ k < b + n then nth l (k - b + a) else nth l k
  | 0,a,b,l,_,_ => ⟨.refl _,fun k => by rw [if_neg (by omega),if_neg (by omega)];rfl⟩
  | n + 1,a,b,l,h1,h2 => by
    obtain ⟨p,h⟩ := swR_ok (n:=n) (a:=a + 1) (b:=b + 1) (l:=swp l a b) (by omega) (by simp;omega)
    have hw : ∀ q,nth (swp l a b) q = _ := fun q => swp_nth (l:=l) (i:=a) (j:=b) (by omega) (by omega)
    refine ⟨p.trans (swp_perm (by omega) (by omega)),fun k => ?_⟩
    show nth (swR n (a + 1) (b + 1) (swp l a b)) k = _
    rw [h k]
    by_cases c1 : a ≤ k ∧ k < a + (n + 1)
    · rw [if_pos c1]
      by_cases e : k = a
      · subst e
        rw [if_neg (by omega),if_neg (by omega),hw,if_neg (by omega),if_pos rfl]
        congr 1;omega
      · rw [if_pos (by omega),hw,if_neg (by omega),if_neg (by omega)]
        congr 1;omega
    · rw [if_neg c1,if_neg (by omega)]
      by_cases c2 : b ≤ k ∧ k < b + (n + 1)
      · rw [if_pos c2]
        by_cases e : k = b
        · subst e
          rw [if_neg (by omega),hw,if_pos rfl]
          congr 1;omega
        · rw [if_pos (by omega),hw,if_neg (by omega),if_neg (by omega)]
          congr 1;omega
      · rw [if_neg c2,if_neg (by omega),hw,if_neg (by omega),if_neg (by omega)]
def rot (m i j : Nat) (l : List α) : List α :=
  if i = 0 ∨ j = 0 then l else if i = j then swR i (m - i) m l else if j < i then rot m (i - j) j (swR j (m - i) m l) else rot m i (j - i) (swR i (m - i) (m + j - i) l)
termination_by i + j
decreasing_by all_goals omega
theorem rot_ok {m : Nat} : ∀ (i j : Nat) (l : List α),i ≤ m → m + j ≤ l.length → (rot m i j l).Perm l ∧ ∀ k,nth (rot m i j l) k = if m - i ≤ k ∧ k < m - i + j then nth l (k + i) else if m - i + j ≤ k ∧ k < m + j then nth l (k - j) else nth l k := by
  intro i j
  induction hd : i + j using Nat.strongRecOn generalizing i j with
  | _ d ih =>
    subst hd
    intro l hi hj
    unfold rot
    split
    · rename_i h0
      refine ⟨.refl _,fun k => ?_⟩
      by_cases c1 : m - i ≤ k ∧ k < m - i + j
      · rw [if_pos c1];congr 1;omega
      · rw [if_neg c1]
        by_cases c2 : m - i + j ≤ k ∧ k < m + j
        · rw [if_pos c2];congr 1;omega
        · rw [if_neg c2]
    · rename_i h0
      split
      · rename_i e
        subst e
        obtain ⟨p,h⟩ := swR_ok (n:=i) (a:=m - i) (b:=m) (l:=l) (by omega) (by omega)
        refine ⟨p,fun k => ?_⟩
        rw [h k]
        by_cases c1 : m - i ≤ k ∧ k < m - i + i
        · rw [if_pos c1,if_pos c1];congr 1;omega
        · rw [if_neg c1,if_neg c1]
          by_cases c2 : m ≤ k ∧ k < m + i
          · rw [if_pos c2,if_pos (by omega)];congr 1;omega
          · rw [if_neg c2,if_neg (by omega)]
      · rename_i e
        split
        · rename_i hlt
          obtain ⟨p,h⟩ := swR_ok (n:=j) (a:=m - i) (b:=m) (l:=l) (by omega) (by omega)
          obtain ⟨p2,h2⟩ := ih (i - j + j) (by omega) (i - j) j rfl (swR j (m - i) m l) (by omega) (by rw [p.length_eq];omega)
          refine ⟨p2.trans p,fun k => ?_⟩
          rw [h2 k]
          by_cases c1 : m - i ≤ k ∧ k < m - i + j
          · rw [if_pos c1,if_neg (by omega),if_neg (by omega),h k,if_pos c1];congr 1;omega
          · rw [if_neg c1]
            by_cases c2 : m - i + j ≤ k ∧ k < m + j
            · rw [if_pos c2]
              by_cases c3 : m - (i - j) ≤ k ∧ k < m - (i - j) + j
              · rw [if_pos c3,h,if_neg (by omega),if_pos (by omega)];congr 1;omega
              · rw [if_neg c3,if_pos (by omega),h,if_neg (by omega),if_neg (by omega)]
            · rw [if_neg c2,if_neg (by omega),if_neg (by omega),h,if_neg (by omega),if_neg (by omega)]
        · rename_i hlt
          obtain ⟨p,h⟩ := swR_ok (n:=i) (a:=m - i) (b:=m + j - i) (l:=l) (by omega) (by omega)
          obtain ⟨p2,h2⟩ := ih (i + (j - i)) (by omega) i (j - i) rfl (swR i (m - i) (m + j - i) l) (by omega) (by rw [p.length_eq];omega)
          refine ⟨p2.trans p,fun k => ?_⟩
          rw [h2 k]
          by_cases c1 : m - i ≤ k ∧ k < m - i + j
          · rw [if_pos c1]
            by_cases c3 : m - i ≤ k ∧ k < m - i + (j - i)
            · rw [if_pos c3,h]
              by_cases c4 : m ≤ k + i
              · rw [if_neg (by omega),if_neg (by omega)]
              · omega
            · rw [if_neg c3]
              by_cases c5 : k < m + (j - i)
              · rw [if_pos (by omega),h,if_pos (by omega)];congr 1;omega
              · omega
          · rw [if_neg c1]
            by_cases c2 : m - i + j ≤ k ∧ k < m + j
            · rw [if_pos c2,if_neg (by omega),if_neg (by omega),h,if_neg (by omega),if_pos (by omega)];congr 1;omega
            · rw [if_neg c2,if_neg (by omega),if_neg (by omega),h,if_neg (by omega),if_neg (by omega)]
end
section
variable {α : Type} [Inhabited α] {lt : α → α → Bool}
def symS (lt : α → α → Bool) (a m b : Nat) (l : List α) : Nat :=
  if (a + b) / 2 < m then hlf (fun c => !lt (nth l ((a + b) / 2 + m - 1 - c)) (nth l c)) ((a + b) / 2 + m - b) ((a + b) / 2)
  else hlf (fun c => !lt (nth l ((a + b) / 2 + m - 1 - c)) (nth l c)) a m
def cutR (s m mid : Nat) (l : List α) : List α :=
  if s < m ∧ m < mid + m - s then rot m (m - s) (mid + m - s - m) l else l
def symM (lt : α → α → Bool) : Nat → Nat → Nat → Nat → List α → List α
  | 0,_,_,_,l => l
  | f + 1,a,m,b,l =>
    if m - a = 1 then mvU (hlf (fun h => lt (nth l h) (nth l a)) m b - 1 - a) a l
    else if b - m = 1 then mvD (m - hlf (fun h => !lt (nth l m) (nth l h)) a m) m l
    else
      let s := symS lt a m b l
      let e := (a + b) / 2 + m - s
      let l2 := if a < s ∧ s < (a + b) / 2 then symM lt f a s ((a + b) / 2) (cutR s m ((a + b) / 2) l) else cutR s m ((a + b) / 2) l
      if (a + b) / 2 < e ∧ e < b then symM lt f ((a + b) / 2) e b l2 else l2
theorem sym1 (O : Ordr lt) {a b : Nat} {l : List α} (hab : a + 1 < b) (hb : b ≤ l.length) (h2 : Srt lt (a + 1) b l) : Wit a b l (mvU (hlf (fun h => lt (nth l h) (nth l a)) (a + 1) b - 1 - a) a l) ∧ Srt lt a b (mvU (hlf (fun h => lt (nth l h) (nth l a)) (a + 1) b - 1 - a) a l) := by
  obtain ⟨q1,q2,q3⟩ := hlf_ok (p:=fun h => lt (nth l h) (nth l a)) (a + 1) b (by omega)
  obtain ⟨q4,q5⟩ := q3 (fun x y h1 hxy hy hp => by
    cases hc : lt (nth l x) (nth l a)
    · have := O.ntr hc (h2 x y h1 hxy hy);have hp' : lt (nth l y) (nth l a) = true := hp;rw [hp'] at this;cases this
    · rfl)
  generalize hlf (fun h => lt (nth l h) (nth l a)) (a + 1) b = i at *
  obtain ⟨w,m1,m2⟩ := mvU_ok (n:=i - 1 - a) (k:=a) (l:=l) (by omega)
  refine ⟨w.wide (by omega) (by omega),fun p q hp hpq hq => ?_⟩
  rw [show a + (i - 1 - a) = i - 1 by omega] at *
  by_cases c1 : q < i - 1
  · rw [m1 p hp (by omega),m1 q (by omega) c1]
    exact h2 _ _ (by omega) (by omega) (by omega)
  · by_cases c2 : q = i - 1
    · subst c2
      rw [m2]
      by_cases c3 : p = i - 1
      · subst c3;rw [m2];exact O.rfl' _
      · rw [m1 p hp (by omega)]
        exact O.asym (q4 (p + 1) (by omega) (by omega))
    · rw [w.out q (by omega)]
      by_cases c3 : p < i - 1
      · rw [m1 p hp c3];exact h2 _ _ (by omega) (by omega) (by omega)
      · by_cases c4 : p = i - 1
        · subst c4;rw [m2];exact q5 q (by omega) hq
        · rw [w.out p (by omega)];exact h2 _ _ (by omega) hpq hq
theorem sym2 (O : Ordr lt) {a m : Nat} {l : List α} (ham : a < m) (hb : m + 1 ≤ l.length) (h1 : Srt lt a m l) : Wit a (m + 1) l (mvD (m - hlf (fun h => !lt (nth l m) (nth l h)) a m) m l) ∧ Srt lt a (m + 1) (mvD (m - hlf (fun h => !lt (nth l m) (nth l h)) a m) m l) := by
  obtain ⟨q1,q2,q3⟩ := hlf_ok (p:=fun h => !lt (nth l m) (nth l h)) a m (by omega)
  obtain ⟨q4,q5⟩ := q3 (fun x y h2 hxy hy hp => by
    simp only [Bool.not_eq_true'] at hp ⊢
    exact O.ntr (h1 x y h2 hxy hy) hp)
  generalize hlf (fun h => !lt (nth l m) (nth l h)) a m = i at *
  obtain ⟨w,m1,m2⟩ := mvD_ok (n:=m - i) (k:=m) (l:=l) (by omega) (by omega)
  rw [show m - (m - i) = i by omega] at *
  refine ⟨w.wide (by omega) (by omega),fun p q hp hpq hq => ?_⟩
  have q4' : ∀ x,a ≤ x → x < i → lt (nth l m) (nth l x) = false := fun x h2 h3 => by simpa using q4 x h2 h3
  have q5' : ∀ x,i ≤ x → x < m → lt (nth l m) (nth l x) = true := fun x h2 h3 => by simpa using q5 x h2 h3
  by_cases c1 : q < i
  · rw [w.out p (by omega),w.out q (by omega)];exact h1 _ _ hp hpq (by omega)
  · by_cases c2 : q = i
    · subst c2
      rw [m2]
      by_cases c3 : p = q
      · subst c3;rw [m2];exact O.rfl' _
      · rw [w.out p (by omega)];exact q4' p hp (by omega)
    · rw [m1 q (by omega) (by omega)]
      by_cases c3 : p < i
      · rw [w.out p (by omega)];exact h1 _ _ hp (by omega) (by omega)
      · by_cases c4 : p = i
        · subst c4;rw [m2];exact O.asym (q5' _ (by omega) (by omega))
        · rw [m1 p (by omega) (by omega)];exact h1 _ _ (by omega) (by omega) (by omega)
theorem symS_ok (O : Ordr lt) {a m b : Nat} {l : List α} (h1 : a < m) (h2 : m < b) (s1 : Srt lt a m l) (s2 : Srt lt m b l) :
    a ≤ symS lt a m b l ∧ symS lt a m b l ≤ m ∧ symS lt a m b l ≤ (a + b) / 2 ∧ m ≤ (a + b) / 2 + m - symS lt a m b l ∧ (a + b) / 2 + m - symS lt a m b l ≤ b ∧
    (∀ x y,a ≤ x → x < symS lt a m b l → (a + b) / 2 + m - symS lt a m b l ≤ y → y < b → lt (nth l y) (nth l x) = false) ∧
    (∀ x y,m ≤ x → x < (a + b) / 2 + m - symS lt a m b l → symS lt a m b l ≤ y → y < m → lt (nth l y) (nth l x) = false) := by
  have key : ∀ lo hi s,lo ≤ hi → a ≤ lo → hi ≤ m → hi ≤ (a + b) / 2 → (a + b) / 2 + m - lo ≤ b → m ≤ (a + b) / 2 + m - hi → (lo = a ∨ (a + b) / 2 + m - lo = b) → (hi = m ∨ (a + b) / 2 + m - hi = m) →
      s = hlf (fun c => !lt (nth l ((a + b) / 2 + m - 1 - c)) (nth l c)) lo hi → a ≤ s ∧ s ≤ m ∧ s ≤ (a + b) / 2 ∧ m ≤ (a + b) / 2 + m - s ∧ (a + b) / 2 + m - s ≤ b ∧
      (∀ x y,a ≤ x → x < s → (a + b) / 2 + m - s ≤ y → y < b → lt (nth l y) (nth l x) = false) ∧ (∀ x y,m ≤ x → x < (a + b) / 2 + m - s → s ≤ y → y < m → lt (nth l y) (nth l x) = false) := by
    intro lo hi s g1 g2 g3 g4 g5 g6 g7 g8 hs
    obtain ⟨q1,q2,q3⟩ := hlf_ok (p:=fun c => !lt (nth l ((a + b) / 2 + m - 1 - c)) (nth l c)) lo hi g1
    rw [← hs] at q1 q2 q3
    obtain ⟨q4,q5⟩ := q3 (fun x y hx hxy hy hp => by
      simp only [Bool.not_eq_true'] at hp ⊢
      have e1 := s1 x y (by omega) hxy (by omega)
      have e2 := s2 ((a + b) / 2 + m - 1 - y) ((a + b) / 2 + m - 1 - x) (by omega) (by omega) (by omega)
      exact O.ntr (O.ntr e1 hp) e2)
    refine ⟨by omega,by omega,by omega,by omega,by omega,fun x y hx1 hx2 hy1 hy2 => ?_,fun x y hx1 hx2 hy1 hy2 => ?_⟩
    · have hlo : lo ≤ s - 1 := by omega
      have e0 := q4 (s - 1) hlo (by omega)
      simp only [Bool.not_eq_true'] at e0
      rw [show (a + b) / 2 + m - 1 - (s - 1) = (a + b) / 2 + m - s by omega] at e0
      exact O.ntr (O.ntr (s1 x (s - 1) hx1 (by omega) (by omega)) e0) (s2 _ y (by omega) hy1 hy2)
    · have e0 := q5 s (by omega) (by omega)
      simp only [Bool.not_eq_false'] at e0
      have e0 := O.asym e0
      exact O.ntr (O.ntr (s2 x ((a + b) / 2 + m - 1 - s) hx1 (by omega) (by omega)) e0) (s1 s y (by omega) hy1 hy2)
  unfold symS
  split
  · exact key _ _ _ (by omega) (by omega) (by omega) (by omega) (by omega) (by omega) (.inr (by omega)) (.inr (by omega)) rfl
  · exact key _ _ _ (by omega) (by omega) (by omega) (by omega) (by omega) (by omega) (.inl rfl) (.inl rfl) rfl
theorem cutR_nth {s m mid : Nat} {l : List α} (hs : s ≤ mid) (hs2 : s ≤ m) (he : mid + m - s ≤ l.length) :
    (cutR s m mid l).Perm l ∧ ∀ k,nth (cutR s m mid l) k = if s ≤ k ∧ k < mid then nth l (k + (m - s)) else if mid ≤ k ∧ k < mid + m - s then nth l (k + s - mid) else nth l k := by
  unfold cutR
  split
  · rename_i h
    obtain ⟨p,q⟩ := rot_ok (m:=m) (m - s) (mid + m - s - m) l (by omega) (by omega)
    refine ⟨p,fun k => ?_⟩
    rw [q k]
    by_cases c1 : s ≤ k ∧ k < mid
    · rw [if_pos c1,if_pos (by omega)]
    · rw [if_neg c1,if_neg (by omega)]
      by_cases c2 : mid ≤ k ∧ k < mid + m - s
      · rw [if_pos c2,if_pos (by omega)];congr 1;omega
      · rw [if_neg c2,if_neg (by omega)]
  · rename_i h
    refine ⟨.refl _,fun k => ?_⟩
    by_cases c1 : s ≤ k ∧ k < mid
    · rw [if_pos c1];congr 1;omega
    · rw [if_neg c1]
      by_cases c2 : mid ≤ k ∧ k < mid + m - s
      · rw [if_pos c2];congr 1;omega
      · rw [if_neg c2]
theorem symM_ok (O : Ordr lt) : ∀ (f a m b : Nat) (l : List α),b - a ≤ f → a < m → m < b → b ≤ l.length → Srt lt a m l → Srt lt m b l → Wit a b l (symM lt f a m b l) ∧ Srt lt a b (symM lt f a m b l)
  | 0,a,m,b,l,hf,h1,h2,hb,s1,s2 => by omega
  | f + 1,a,m,b,l,hf,h1,h2,hb,s1,s2 => by
    unfold symM
    split
    · rename_i h
      obtain rfl : m = a + 1 := by omega
      exact sym1 O (by omega) hb s2
    · split
      · rename_i h
        obtain rfl : b = m + 1 := by omega
        exact sym2 O h1 hb s1
      · rename_i n1 n2
        obtain ⟨r1,r2,r3,r4,r5,r6,r7⟩ := symS_ok O h1 h2 s1 s2
        simp only
        generalize symS lt a m b l = s at *
        generalize hmid : (a + b) / 2 = mid at *
        obtain ⟨p,hn⟩ := cutR_nth (s:=s) (m:=m) (mid:=mid) (l:=l) r3 r2 (by omega)
        generalize cutR s m mid l = l1 at *
        have w1 : Wit a b l l1 := by
          refine ⟨p,fun k hk => ?_,fun k ha hk => ?_⟩
          · rw [hn k,if_neg (by omega),if_neg (by omega)]
          · rw [hn k]
            by_cases c1 : s ≤ k ∧ k < mid
            · rw [if_pos c1];exact ⟨_,by omega,by omega,rfl⟩
            · rw [if_neg c1]
              by_cases c2 : mid ≤ k ∧ k < mid + m - s
              · rw [if_pos c2];exact ⟨_,by omega,by omega,rfl⟩
              · rw [if_neg c2];exact ⟨_,ha,hk,rfl⟩
        have t1 : Srt lt a s l1 := fun i j g1 g2 g3 => by
          rw [hn i,hn j,if_neg (by omega),if_neg (by omega),if_neg (by omega),if_neg (by omega)];exact s1 i j g1 g2 (by omega)
        have t2 : Srt lt s mid l1 := fun i j g1 g2 g3 => by
          rw [hn i,hn j,if_pos (by omega),if_pos (by omega)];exact s2 _ _ (by omega) (by omega) (by omega)
        have t3 : Srt lt mid (mid + m - s) l1 := fun i j g1 g2 g3 => by
          rw [hn i,hn j,if_neg (by omega),if_pos (by omega),if_neg (by omega),if_pos (by omega)];exact s1 _ _ (by omega) (by omega) (by omega)
        have t4 : Srt lt (mid + m - s) b l1 := fun i j g1 g2 g3 => by
          rw [hn i,hn j,if_neg (by omega),if_neg (by omega),if_neg (by omega),if_neg (by omega)];exact s2 _ _ (by omega) (by omega) (by omega)
        have tc : ∀ x y,a ≤ x → x < mid → mid ≤ y → y < b → lt (nth l1 y) (nth l1 x) = false := fun x y g1 g2 g3 g4 => by
          by_cases c1 : x < s
          · rw [show nth l1 x = nth l x by rw [hn x,if_neg (by omega),if_neg (by omega)]]
            by_cases c2 : y < mid + m - s
            · rw [hn y,if_neg (by omega),if_pos (by omega)];exact s1 _ _ (by omega) (by omega) (by omega)
            · rw [hn y,if_neg (by omega),if_neg (by omega)];exact r6 _ _ (by omega) (by omega) (by omega) (by omega)
          · rw [show nth l1 x = nth l (x + (m - s)) by rw [hn x,if_pos (by omega)]]
            by_cases c2 : y < mid + m - s
            · rw [hn y,if_neg (by omega),if_pos (by omega)];exact r7 _ _ (by omega) (by omega) (by omega) (by omega)
            · rw [hn y,if_neg (by omega),if_neg (by omega)];exact s2 _ _ (by omega) (by omega) (by omega)
        have hl1 := w1.len
        have A : Wit a mid l1 (if a < s ∧ s < mid then symM lt f a s mid l1 else l1) ∧ Srt lt a mid (if a < s ∧ s < mid then symM lt f a s mid l1 else l1) := by
          split
          · rename_i h
            exact symM_ok O f a s mid l1 (by omega) h.1 h.2 (by omega) t1 t2
          · rename_i h
            refine ⟨Wit.refl ..,?_⟩
            by_cases c : s = a
            · subst c;exact t2
            · obtain rfl : s = mid := by omega
              exact t1
        generalize (if a < s ∧ s < mid then symM lt f a s mid l1 else l1) = l2 at *
        obtain ⟨w2,u1⟩ := A
        have hl2 := w2.len
        have t3' := t3.out w2 (.inr (Nat.le_refl _))
        have t4' := t4.out w2 (.inr (by omega))
        have B : Wit mid b l2 (if mid < mid + m - s ∧ mid + m - s < b then symM lt f mid (mid + m - s) b l2 else l2) ∧ Srt lt mid b (if mid < mid + m - s ∧ mid + m - s < b then symM lt f mid (mid + m - s) b l2 else l2) := by
          split
          · rename_i h
            exact symM_ok O f mid (mid + m - s) b l2 (by omega) h.1 h.2 (by omega) t3' t4'
          · rename_i h
            refine ⟨Wit.refl ..,?_⟩
            by_cases c : mid + m - s = b
            · rw [← c];exact t3'
            · have : mid = mid + m - s := by omega
              rw [← this] at t4';exact t4'
        generalize (if mid < mid + m - s ∧ mid + m - s < b then symM lt f mid (mid + m - s) b l2 else l2) = l3 at *
        obtain ⟨w3,u2⟩ := B
        refine ⟨(w1.trans (w2.wide (Nat.le_refl _) (by omega))).trans (w3.wide (by omega) (Nat.le_refl _)),fun x y g1 g2 g3 => ?_⟩
        by_cases c1 : y < mid
        · rw [w3.out x (by omega),w3.out y (by omega)];exact u1 x y g1 g2 c1
        · by_cases c2 : mid ≤ x
          · exact u2 x y c2 g2 g3
          · obtain ⟨y',y1,y2,e1⟩ := w3.mem y (by omega) g3
            obtain ⟨x',x1,x2,e2⟩ := w2.mem x g1 (by omega)
            rw [e1,w3.out x (by omega),e2,w2.out y' (by omega)]
            exact tc x' y' x1 x2 y1 y2
end
end Go.Proofs.Ytgkbmiaimjpbfaa.Ev
namespace Go.Proofs.Ytgkbmiaimjpbfaa.Ev
set_option linter.unusedSectionVars false
section
variable {α : Type} [Inhabited α] {lt : α → α → Bool}
def blk (g : Nat → List α → List α) (w n : Nat) : Nat → Nat → List α → Nat × List α
  | 0,a,l => (a,l)
  | f + 1,a,l => if a + w ≤ n then blk g w n f (a + w) (g a l) else (a,l)
theorem blk_ok {g : Nat → List α → List α} {w n : Nat} {l0 : List α} (hw : 1 ≤ w) (hn : n ≤ l0.length)
    (hg : ∀ k l',k * w + w ≤ n → l'.length = l0.length → (∀ i,k * w ≤ i → nth l' i = nth l0 i) → Wit (k * w) (k * w + w) l' (g (k * w) l') ∧ Srt lt (k * w) (k * w + w) (g (k * w) l')) :
    ∀ (f k : Nat) (l' : List α),n ≤ f + k * w → k * w ≤ n → Wit 0 (k * w) l0 l' → (∀ j,j < k → Srt lt (j * w) (j * w + w) l') →
    ∃ K,(blk g w n f (k * w) l').1 = K * w ∧ K * w ≤ n ∧ n < K * w + w ∧ Wit 0 (K * w) l0 (blk g w n f (k * w) l').2 ∧ ∀ j,j < K → Srt lt (j * w) (j * w + w) (blk g w n f (k * w) l').2
  | 0,k,l',h1,h2,h3,h4 => ⟨k,rfl,h2,by omega,h3,h4⟩
  | f + 1,k,l',h1,h2,h3,h4 => by
    unfold blk
    split
    · rename_i h
      obtain ⟨w1,s1⟩ := hg k l' h h3.len (fun i hi => h3.out i (.inr hi))
      rw [show k * w + w = (k + 1) * w by rw [Nat.succ_mul]] at *
      refine blk_ok hw hn hg f (k + 1) _ (by rw [Nat.succ_mul];omega) h ((h3.wide (Nat.le_refl _) (by rw [Nat.succ_mul];omega)).trans (w1.wide (Nat.zero_le _) (Nat.le_refl _))) (fun j hj => ?_)
      by_cases e : j = k
      · subst e;rw [show j * w + w = (j + 1) * w by rw [Nat.succ_mul]];exact s1
      · have hjk : j * w + w ≤ k * w := by
          rw [← Nat.succ_mul];exact Nat.mul_le_mul_right _ (by omega)
        exact (h4 j (by omega)).out w1 (.inl hjk)
    · rename_i h
      exact ⟨k,rfl,h2,by omega,h3,h4⟩
def Blks (lt : α → α → Bool) (w n : Nat) (l : List α) : Prop := ∀ k,k * w < n → Srt lt (k * w) (min (k * w + w) n) l
def stb1 (lt : α → α → Bool) (n : Nat) (l : List α) : List α :=
  ins lt (blk (fun a l => ins lt a (a + 20) l) 20 n n 0 l).1 n (blk (fun a l => ins lt a (a + 20) l) 20 n n 0 l).2
theorem stb1_ok (O : Ordr lt) {n : Nat} {l : List α} (hn : n ≤ l.length) : Wit 0 n l (stb1 lt n l) ∧ Blks lt 20 n (stb1 lt n l) := by
  unfold stb1
  obtain ⟨K,e,h1,h2,w1,s1⟩ := blk_ok (lt:=lt) (g:=fun a l => ins lt a (a + 20) l) (w:=20) (n:=n) (l0:=l) (by omega) hn (fun k l' hk hl _ => ins_ok O (by omega)) n 0 l (by omega) (by omega) (by rw [Nat.zero_mul];exact Wit.refl ..) (fun j hj => by omega)
  rw [Nat.zero_mul] at e w1 s1
  rw [e]
  generalize (blk (fun a l => ins lt a (a + 20) l) 20 n n 0 l).2 = l2 at *
  have hl := w1.len
  obtain ⟨w2,s2⟩ := ins_ok O (a:=K * 20) (b:=n) (l:=l2) (by omega)
  refine ⟨(w1.wide (Nat.le_refl _) h1).trans (w2.wide (Nat.zero_le _) (Nat.le_refl _)),fun k hk => ?_⟩
  by_cases c1 : k < K
  · rw [Nat.min_eq_left (by omega)]
    exact (s1 k c1).out w2 (.inl (by omega))
  · obtain rfl : k = K := by omega
    rw [Nat.min_eq_right (by omega)];exact s2
def mrg (lt : α → α → Bool) (w n : Nat) (l : List α) : List α :=
  if (blk (fun a l => symM lt (2 * w) a (a + w) (a + 2 * w) l) (2 * w) n n 0 l).1 + w < n then symM lt (2 * w) (blk (fun a l => symM lt (2 * w) a (a + w) (a + 2 * w) l) (2 * w) n n 0 l).1 ((blk (fun a l => symM lt (2 * w) a (a + w) (a + 2 * w) l) (2 * w) n n 0 l).1 + w) n (blk (fun a l => symM lt (2 * w) a (a + w) (a + 2 * w) l) (2 * w) n n 0 l).2
  else (blk (fun a l => symM lt (2 * w) a (a + w) (a + 2 * w) l) (2 * w) n n 0 l).2
theorem mrg_ok (O : Ordr lt) {w n : Nat} {l : List α} (hw : 1 ≤ w) (hn : n ≤ l.length) (hB : Blks lt w n l) : Wit 0 n l (mrg lt w n l) ∧ Blks lt (2 * w) n (mrg lt w n l) := by
  unfold mrg
  have h2w : ∀ k,k * (2 * w) = 2 * k * w := fun k => by rw [Nat.mul_comm 2 k,Nat.mul_assoc]
  have h2s : ∀ k,(2 * k + 1) * w = 2 * k * w + w := fun k => by rw [Nat.succ_mul]
  obtain ⟨K,e,h1,h2,w1,s1⟩ := blk_ok (lt:=lt) (g:=fun a l => symM lt (2 * w) a (a + w) (a + 2 * w) l) (w:=2 * w) (n:=n) (l0:=l) (by omega) hn (fun k l' hk hl hs => by
    have b1 := hB (2 * k) (by rw [h2w] at hk;omega)
    have b2 := hB (2 * k + 1) (by rw [h2w] at hk;rw [h2s];omega)
    rw [h2s] at b2
    rw [← h2w] at b1 b2
    rw [Nat.min_eq_left (by omega)] at b1 b2
    exact symM_ok O (2 * w) (k * (2 * w)) (k * (2 * w) + w) (k * (2 * w) + 2 * w) l' (by omega) (by omega) (by omega) (by omega)
      (fun i j g1 g2 g3 => by rw [hs i (by omega),hs j (by omega)];exact b1 i j g1 g2 g3)
      (fun i j g1 g2 g3 => by rw [hs i (by omega),hs j (by omega)];exact b2 i j g1 g2 (by omega))) n 0 l (by omega) (by omega) (by rw [Nat.zero_mul];exact Wit.refl ..) (fun j hj => by omega)
  rw [Nat.zero_mul] at e w1 s1
  rw [e]
  generalize (blk (fun a l => symM lt (2 * w) a (a + w) (a + 2 * w) l) (2 * w) n n 0 l).2 = l2 at *
  have hl := w1.len
  have hlow : ∀ k l3,k < K → Wit (K * (2 * w)) n l2 l3 → Srt lt (k * (2 * w)) (min (k * (2 * w) + 2 * w) n) l3 := fun k l3 hk w3 => by
    have hkk : k * (2 * w) + 2 * w ≤ K * (2 * w) := by
      rw [← Nat.succ_mul];exact Nat.mul_le_mul_right _ (by omega)
    rw [Nat.min_eq_left (by omega)]
    exact (s1 k hk).out w3 (.inl hkk)
  have hhi : ∀ k,K < k → ¬ k * (2 * w) < n := fun k hk => by
    have hkk : K * (2 * w) + 2 * w ≤ k * (2 * w) := by
      rw [← Nat.succ_mul];exact Nat.mul_le_mul_right _ (by omega)
    omega
  split
  · rename_i hlt
    have b1 := hB (2 * K) (by rw [h2w] at hlt;omega)
    have b2 := hB (2 * K + 1) (by rw [h2w] at hlt;rw [h2s];omega)
    rw [h2s] at b2
    rw [← h2w] at b1 b2
    rw [Nat.min_eq_left (by omega)] at b1
    rw [Nat.min_eq_right (by omega)] at b2
    obtain ⟨w2,s2⟩ := symM_ok O (2 * w) (K * (2 * w)) (K * (2 * w) + w) n l2 (by omega) (by omega) hlt (by omega)
      (fun i j g1 g2 g3 => by rw [w1.out i (by omega),w1.out j (by omega)];exact b1 i j g1 g2 g3)
      (fun i j g1 g2 g3 => by rw [w1.out i (by omega),w1.out j (by omega)];exact b2 i j g1 g2 g3)
    refine ⟨(w1.wide (Nat.le_refl _) h1).trans (w2.wide (Nat.zero_le _) (Nat.le_refl _)),fun k hk => ?_⟩
    by_cases c1 : k < K
    · exact hlow k _ c1 w2
    · by_cases c2 : k = K
      · subst c2;rw [Nat.min_eq_right (by omega)];exact s2
      · exact absurd hk (hhi k (by omega))
  · rename_i hlt
    refine ⟨w1.wide (Nat.le_refl _) h1,fun k hk => ?_⟩
    by_cases c1 : k < K
    · exact hlow k _ c1 (Wit.refl ..)
    · by_cases c2 : k = K
      · subst c2
        have b1 := hB (2 * k) (by rw [h2w] at hk;omega)
        rw [← h2w] at b1
        rw [Nat.min_eq_right (by omega)] at b1 ⊢
        intro i j g1 g2 g3
        rw [w1.out i (by omega),w1.out j (by omega)];exact b1 i j g1 g2 g3
      · exact absurd hk (hhi k (by omega))
def stb2 (lt : α → α → Bool) (n : Nat) : Nat → Nat → List α → List α
  | 0,_,l => l
  | f + 1,w,l => if w < n then stb2 lt n f (2 * w) (mrg lt w n l) else l
theorem stb2_ok (O : Ordr lt) {n : Nat} : ∀ (f w : Nat) (l : List α),n ≤ f + w → 1 ≤ w → n ≤ l.length → Blks lt w n l → Wit 0 n l (stb2 lt n f w l) ∧ Srt lt 0 n (stb2 lt n f w l)
  | 0,w,l,hf,hw,hn,hB => by
    refine ⟨Wit.refl ..,fun i j g1 g2 g3 => ?_⟩
    have b := hB 0 (by omega)
    rw [Nat.zero_mul,Nat.min_eq_right (by omega)] at b
    exact b i j g1 g2 g3
  | f + 1,w,l,hf,hw,hn,hB => by
    unfold stb2
    split
    · rename_i h
      obtain ⟨w1,b1⟩ := mrg_ok O hw hn hB
      obtain ⟨w2,s2⟩ := stb2_ok O f (2 * w) _ (by omega) (by omega) (by rw [w1.len];exact hn) b1
      exact ⟨w1.trans w2,s2⟩
    · rename_i h
      refine ⟨Wit.refl ..,fun i j g1 g2 g3 => ?_⟩
      have b := hB 0 (by omega)
      rw [Nat.zero_mul,Nat.min_eq_right (by omega)] at b
      exact b i j g1 g2 g3
def stb (lt : α → α → Bool) (l : List α) : List α := stb2 lt l.length l.length 20 (stb1 lt l.length l)
theorem stb_ok (O : Ordr lt) (l : List α) : (stb lt l).Perm l ∧ Srt lt 0 l.length (stb lt l) := by
  obtain ⟨w1,b1⟩ := stb1_ok O (n:=l.length) (l:=l) (Nat.le_refl _)
  obtain ⟨w2,s2⟩ := stb2_ok O l.length 20 _ (by omega) (by omega) (by rw [w1.len];exact Nat.le_refl _) b1
  exact ⟨(w1.trans w2).perm,s2⟩
end
end Go.Proofs.Ytgkbmiaimjpbfaa.Ev
