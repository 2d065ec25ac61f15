/- Part 4 of the proof that the law named in the last part returns true at every argument: an evaluator of the program, shown sound, and its runs. No further conditions. -/
import Derived.Test.YtgkbmiaimjpbfaaML2403
namespace Go.Proofs.Ytgkbmiaimjpbfaa.Ev
open Go
set_option maxRecDepth 100000
set_option linter.unusedSimpArgs false
set_option linter.unusedVariables false
set_option maxHeartbeats 2000000
theorem l_eqI (a b : List Int) (z z' : Nat) (ha : a.length < 4000000000) (hab : a.length = b.length) : ∀ i : Nat,i ≤ a.length → ∀ s,normE 2 (some [0,1,5]) s = ⟨[(0,.lst false z (ints a)),(1,.lst false z' (ints b)),(5,.int .i64 i)],[],2⟩ →
 oc.loop 157 4 s = some (if a.drop i = b.drop i then (.exit 0,⟨[],[],2⟩) else (.ret,⟨[(4,.bool false)],[],2⟩)) := by
 refine loop_ind (fun i => a.length - i) _ (fun i => ⟨[(0,.lst false z (ints a)),(1,.lst false z' (ints b)),(5,.int .i64 i)],[],2⟩) _ ?_
 intro i hi ih s hs
 refine loop_s cd157 rfl rfl hs ?_
 refine wa_ (wa_ (wc_region (w_ (m_ (h:=w_ (m_ (h:=w_ (le (h:=w_ (b_ (h:=wo_nil (e_ (h:=aft_normal (?_))))))))))))))
 refine c_ (h1:=?_) (h2:=?_)
 rotate_right 1
 focus
  intro c1
  simp at c1;have : i = a.length := (by omega);subst this
  refine wc_exit (?_)
 rotate_right 1
 focus
  intro c1
  simp at c1;have hw := wrap_succ (i:=i) (by omega);obtain ⟨x,_,d1,g1⟩ := ints_cut c1;obtain ⟨y,_,d2,g2⟩ := ints_cut (l:=b) (i:=i) (by omega)
  refine wc_skip (?_)
 all_goals first
 | refine aft_exit ?_
 | (
  refine aft_normal ?_
  refine wa_ (wc_block (wa_ (wc_draw (y_ (m_ (h:=ax_ (h:=y_ (m_ (h:=ax_ (h:=y_ (x_ (h:=ax_ (h:=y_ (l_ (h:=ax_ (h:=y_ (m_ (h:=ax_ (h:=y_ (m_ (h:=ax_ (h:=y_ (x_ (h:=ax_ (h:=y_ (l_ (h:=ax_ (h:=?_))))))))))))))))))))))))))))
  refine y_ (bE (h:=ax_ (h:=wo_nil (ed (h:=aft_normal (?_))))))
  refine c_ (h1:=?_) (h2:=?_)
  rotate_right 1
  focus
   intro c2
   refine wc_skip (?_)
  rotate_right 1
  focus
   intro c2
   refine wa_ (wc_region (w_ (a_ (h:=wo_nil (e_ (h:=aft_normal (wc_ret (?_))))))))
  all_goals first | refine blk_normal ?_ | refine blk_ret ?_
  all_goals first
  | refine aft_ret ?_
  | (
   refine aft_normal ?_
   refine wc_region (w_ (m_ (h:=w_ (b_ (h:=w_ (a_ (h:=wo_nil (e_ (h:=?_)))))))))
   )
  )
 all_goals first
 | (refine (ih (i + 1) (by omega) ?_ _ ?_).trans ?_;(focus (first | omega | (simp;done) | (simp;omega)));(focus (simp [normE,hw];done));(focus (simp at c2;rw [d1,d2];simp [c2])))
 | (apply end_leaf (ex:=Ext.ret) 2 (some [4]);(focus (simp [normE];rfl));(focus (simp at c2;rw [d1,d2];simp [c2])))
 | (apply end_leaf (ex:=(Ext.exit 0)) 2 (some [4]);(focus (simp [normE];rfl));(focus (rw [if_pos (by simp [hab])])))
theorem e_eqI (a b : List Int) (z z' : Nat) (ha : a.length < 4000000000) (hb : b.length < 4000000000) : oc.call 157 [.lst false z (ints a),.lst false z' (ints b)] = some (.bool (decide (a = b)),[]) := by
 refine fun_s rfl cd157 rfl rfl rfl (by simp;rfl) (by simp;rfl) ?_
 refine wa_ (wc_region (w_ (a_ (h:=wo_nil (e_ (h:=aft_normal (wa_ (wa_ (wc_region (w_ (m_ (h:=w_ (le (h:=w_ (m_ (h:=w_ (le (h:=?_))))))))))))))))))
 refine w_ (bE (h:=wo_nil (e_ (h:=aft_normal (?_)))))
 refine c_ (h1:=?_) (h2:=?_)
 rotate_right 1
 focus
  intro c1
  simp at c1
  refine wc_skip (?_)
 rotate_right 1
 focus
  intro c1
  simp at c1;have hne : a ≠ b := (by rintro rfl;exact c1 rfl)
  refine wa_ (wc_region (w_ (a_ (h:=wo_nil (e_ (h:=aft_normal (wc_ret (?_))))))))
 all_goals first
 | refine aft_ret ?_
 | (
  refine aft_normal ?_
  refine wa_ (wa_ (wc_region (w_ (a_ (h:=wo_nil (e_ (h:=aft_normal (wc_block (?_)))))))))
  refine wc_loopI (l_eqI a b z z' ha (by omega) 0 (by omega) _ (by simp [normE])) ?_ ?_
  rotate_right 1
  focus
   intro c2
   skip
  rotate_right 1
  focus
   intro c2
   skip
  all_goals first | refine blk_ret ?_ | refine blk_exit ?_
  all_goals first
  | refine aft_ret ?_
  | (
   refine aft_normal ?_
   refine wa_ (wc_region (w_ (a_ (h:=wo_nil (e_ (h:=aft_normal (wc_ret (?_))))))))
   )
  )
 all_goals (refine fin_ (hr:=(res_tmp rfl res_nil)) (h:=?_);(focus (first | (simp_all;done) | (simp_all <;> omega) | (simp_all <;> split <;> simp_all <;> omega))))
theorem l_toI (a : List Int) (z : Nat) (ha : a.length < 2000000000) : ∀ x : Nat × List Int,(x.1 ≤ a.length ∧ x.2.length = a.length ∧ x.2.take x.1 = a.take x.1) → ∀ s,normE 1 (some [0,3,4]) s = ⟨[(0,.lst false z (ints a)),(3,.ref 1 0 a.length),(4,.int .i64 x.1)],[(1,⟨false,false,1,ints x.2,0⟩)],2⟩ →
 oc.loop 149 3 s = some (.exit 0,⟨[(3,.ref 1 0 a.length)],[(1,⟨false,false,1,ints a,0⟩)],2⟩) := by
 refine loop_ind (σ:=Nat × List Int) (fun x => a.length - x.1) _ (fun x => ⟨[(0,.lst false z (ints a)),(3,.ref 1 0 a.length),(4,.int .i64 x.1)],[(1,⟨false,false,1,ints x.2,0⟩)],2⟩) _ ?_
 rintro ⟨i,r⟩ ⟨hi,hr,ht⟩ ih s hs
 refine loop_s cd149 rfl rfl hs ?_
 refine wa_ (wa_ (wc_region (w_ (m_ (h:=w_ (m_ (h:=w_ (le (h:=w_ (b_ (h:=wo_nil (e_ (h:=aft_normal (?_))))))))))))))
 refine c_ (h1:=?_) (h2:=?_)
 rotate_right 1
 focus
  intro c1
  simp at c1 hi hr ht;have : i = a.length := (by omega);subst this;rw [← hr] at ht;simp at ht;rw [hr] at ht;simp at ht;subst ht
  refine wc_exit (?_)
 rotate_right 1
 focus
  intro c1
  simp at c1;have hw := wrap_succ (i:=i) (by omega);obtain ⟨x,hx,d1,g1⟩ := ints_cut c1;obtain ⟨y,hy,_,g2⟩ := ints_cut (l:=r) (i:=i) (by simp at hr;omega);simp at g2
  refine wc_skip (?_)
 all_goals first
 | refine aft_exit ?_
 | (
  refine aft_normal ?_
  refine wa_ (wc_block (wc_region (w_ (m_ (h:=w_ (m_ (h:=w_ (m_ (h:=w_ (m_ (h:=w_ (x_ (h:=w_ (l_ (h:=w_ (x_ (h:=w0 (s_ (h:=wo_nil (e_ (h:=?_)))))))))))))))))))))
  refine blk_normal (aft_normal (wc_region (w_ (m_ (h:=w_ (b_ (h:=w_ (a_ (h:=wo_nil (e_ (h:=?_)))))))))))
  )
 all_goals first
 | (refine (ih ((i + 1,r.set i x)) (⟨by simp;omega,by simpa using hr,set_take ht hr hx⟩) ?_ _ ?_).trans ?_;(focus (first | omega | (simp;done) | (simp;omega)));(focus (simp [normE,hw];done));(focus (rfl)))
 | (apply end_leaf (ex:=(Ext.exit 0)) 1 (some [3]);(focus (simp [normE];rfl));(focus (simp)))
theorem e_toI (a : List Int) (z : Nat) (ha : a.length < 2000000000) : oc.call 149 [.lst false z (ints a)] = some (.lst true 1 (ints a),[]) := by
 refine fun_s rfl cd149 rfl rfl rfl (by simp;rfl) (by simp;rfl) ?_
 refine wa_ (wc_region (w_ (aN (h:=wo_nil (e_ (h:=aft_normal (wa_ (wc_region (w_ (m_ (h:=w_ (le (h:=w_ (mk (h:=w_ (a_ (h:=wo_nil (e_ (h:=?_)))))))))))))))))))
 refine aft_normal (wa_ (wa_ (wc_region (w_ (a_ (h:=wo_nil (e_ (h:=aft_normal (wc_block (?_))))))))))
 refine wc_loop (l_toI a z ha (0,List.replicate a.length 0) (by simp) _ (by simp [normE])) ?_
 refine blk_exit (aft_normal (wa_ (wc_region (w_ (m_ (h:=w_ (a_ (h:=wo_nil (e_ (h:=aft_normal (wc_ret (?_))))))))))))
 all_goals (refine fin_ (hr:=(res_tmp rfl res_nil)) (h:=?_);(focus (first | (simp_all;done) | (simp_all <;> omega) | (simp_all <;> split <;> simp_all <;> omega))))
def szI (c : Nat) (left : Int) : Int := if left < c then -1 else left - c
theorem e_szN (t : Bool) (sz : Nat) (d : Nd) (a : Int) (h : d.cells.length < 4611686018427387904) (ha : 0 ≤ a) (hb : a < 4000000000) : oc.call 102 [d.v false sz,.int .i64 a] = some (.int .i64 (szI d.cells.length a),[]) := by
 refine fun_s rfl cd102 rfl rfl rfl (by simp;rfl) (by simp;rfl) ?_
 unfold szI
 refine wa_ (wc_region (w_ (bx (h:=w_ (a_ (h:=wo_nil (e_ (h:=aft_normal (wa_ (wc_region (w_ (f_ (h:=w_ (l_ (h:=w_ (m_ (h:=w_ (ca (hc:=e_sz _ (ints d.cells) a (by simpa using (by omega)) ha (by omega)) (h:=?_)))))))))))))))))))
 refine w_ (a_ (h:=wo_nil (e_ (h:=aft_normal (wa_ (wa_ (wc_region (w_ (m_ (h:=w_ (b_ (h:=wo_nil (e_ (h:=aft_normal (?_)))))))))))))))
 refine c_ (h1:=?_) (h2:=?_)
 rotate_right 1
 focus
  intro c1
  simp at c1
  refine wc_skip (?_)
 rotate_right 1
 focus
  intro c1
  simp at c1
  refine wa_ (wc_region (w_ (a_ (h:=wo_nil (e_ (h:=aft_normal (wc_ret (?_))))))))
 all_goals first
 | refine aft_ret ?_
 | (
  refine aft_normal ?_
  refine wa_ (wc_region (w_ (m_ (h:=w_ (a_ (h:=wo_nil (e_ (h:=aft_normal (wc_ret (?_))))))))))
  )
 all_goals (refine fin_ (hr:=(res_tmp rfl res_nil)) (h:=?_);(focus (first | (simp_all;done) | (simp_all <;> omega) | (simp_all <;> split <;> simp_all <;> omega))))
theorem szI_neg {c : Nat} {a : Int} (h : szI c a < 0) : szI c a = -1 := by
  unfold szI at *
  split at h
  · rw [if_pos (by assumption)]
  · omega
def szL : List Nd → Int → Int
  | [],left => left
  | d :: r,left => if szI d.cells.length left < 0 then -1 else szL r (szI d.cells.length left)
theorem szL_neg : ∀ {l : List Nd} {a : Int},0 ≤ a → szL l a < 0 → szL l a = -1
  | [],a,h0,h => by simp [szL] at h;omega
  | d :: r,a,h0,h => by
    unfold szL at *
    by_cases hc : szI d.cells.length a < 0
    · rw [if_pos hc]
    · rw [if_neg hc] at h ⊢
      exact szL_neg (by omega) h
theorem e_toN (sz : Nat) (d : Nd) (h : d.cells.length < 2000000000) : oc.call 109 [d.v false sz] = some (d.v true 1,[]) := by
 refine fun_s rfl cd109 rfl rfl rfl (by simp;rfl) (by simp;rfl) ?_
 refine wa_ (wc_region (w_ (bx (h:=w_ (al (h:=wo_nil (e_ (h:=aft_normal (wa_ (wc_region (w_ (al (h:=wo_nil (e_ (h:=aft_normal (wa_ (?_)))))))))))))))))
 refine wc_region (w_ (f_ (h:=w_ (l_ (h:=w_ (f_ (h:=w0 (s_ (h:=wo_nil (e_ (h:=aft_normal (wa_ (wc_region (w_ (f_ (h:=w_ (l_ (h:=w_ (f_ (h:=?_))))))))))))))))))))
 refine w0 (s_ (h:=wo_nil (e_ (h:=aft_normal (wa_ (wc_region (w_ (f_ (h:=w_ (l_ (h:=w_ (f_ (h:=w0 (s_ (h:=wo_nil (e_ (h:=aft_normal (wa_ (?_)))))))))))))))))))
 refine wc_region (w_ (f_ (h:=w_ (l_ (h:=w_ (f_ (h:=w0 (s_ (h:=wo_nil (e_ (h:=aft_normal (wa_ (wc_region (w_ (f_ (h:=w_ (l_ (h:=w_ (f_ (h:=?_))))))))))))))))))))
 refine w0 (s_ (h:=wo_nil (e_ (h:=aft_normal (wa_ (wc_region (w_ (f_ (h:=w_ (l_ (h:=w_ (f_ (h:=w0 (s_ (h:=wo_nil (e_ (h:=aft_normal (wa_ (?_)))))))))))))))))))
 refine wc_region (w_ (f_ (h:=w_ (l_ (h:=w_ (ca (hc:=e_toI _ _ h) (h:=w_ (f_ (h:=w0 (s_ (h:=wo_nil (e_ (h:=aft_normal (wa_ (wc_region (w_ (l_ (h:=w0 (s_ (h:=?_))))))))))))))))))))
 refine wo_nil (e_ (h:=aft_normal (wc_ret (?_))))
 all_goals (refine fin_ (hr:=(res_cell (tys_ok.zero _ _ rfl) rfl (by simp;rfl) (by rfl) res_nil)) (h:=?_);(focus (simp [Nd.v])))
theorem e_eqN (sz sz' : Nat) (d g : Nd) (h : d.cells.length < 2000000000) (h' : g.cells.length < 2000000000) : oc.call 113 [d.v false sz,g.v false sz'] = some (.bool (decide (d = g)),[]) := by
 refine fun_s rfl cd113 rfl rfl rfl (by simp;rfl) (by simp;rfl) ?_
 refine wa_ (wc_region (w_ (bx (h:=w_ (bx (h:=w_ (a_ (h:=wo_nil (e_ (h:=aft_normal (wa_ (wa_ (wc_region (w_ (f_ (h:=w_ (l_ (h:=?_))))))))))))))))))
 refine w_ (f_ (h:=w_ (l_ (h:=w_ (bE (h:=wo_nil (e_ (h:=aft_normal (?_)))))))))
 refine c_ (h1:=?_) (h2:=?_)
 rotate_right 1
 focus
  intro c1
  refine wc_skip (?_)
 rotate_right 1
 focus
  intro c1
  refine wa_ (wc_region (w_ (a_ (h:=wo_nil (e_ (h:=aft_normal (wc_ret (?_))))))))
 all_goals first
 | refine aft_ret ?_
 | (
  refine aft_normal ?_
  refine wa_ (wa_ (wc_region (w_ (f_ (h:=w_ (l_ (h:=w_ (f_ (h:=w_ (l_ (h:=w_ (bE (h:=wo_nil (e_ (h:=aft_normal (?_))))))))))))))))
  refine c_ (h1:=?_) (h2:=?_)
  rotate_right 1
  focus
   intro c2
   refine wc_skip (?_)
  rotate_right 1
  focus
   intro c2
   refine wa_ (wc_region (w_ (a_ (h:=wo_nil (e_ (h:=aft_normal (wc_ret (?_))))))))
  all_goals first
  | refine aft_ret ?_
  | (
   refine aft_normal ?_
   refine wa_ (wa_ (wc_region (w_ (f_ (h:=w_ (l_ (h:=w_ (f_ (h:=w_ (l_ (h:=w_ (bE (h:=wo_nil (e_ (h:=aft_normal (?_))))))))))))))))
   refine c_ (h1:=?_) (h2:=?_)
   rotate_right 1
   focus
    intro c3
    refine wc_skip (?_)
   rotate_right 1
   focus
    intro c3
    refine wa_ (wc_region (w_ (a_ (h:=wo_nil (e_ (h:=aft_normal (wc_ret (?_))))))))
   all_goals first
   | refine aft_ret ?_
   | (
    refine aft_normal ?_
    refine wa_ (wa_ (wc_region (w_ (f_ (h:=w_ (l_ (h:=w_ (f_ (h:=w_ (l_ (h:=w_ (bE (h:=wo_nil (e_ (h:=aft_normal (?_))))))))))))))))
    refine c_ (h1:=?_) (h2:=?_)
    rotate_right 1
    focus
     intro c4
     refine wc_skip (?_)
    rotate_right 1
    focus
     intro c4
     refine wa_ (wc_region (w_ (a_ (h:=wo_nil (e_ (h:=aft_normal (wc_ret (?_))))))))
    all_goals first
    | refine aft_ret ?_
    | (
     refine aft_normal ?_
     refine wa_ (wa_ (wc_region (w_ (f_ (h:=w_ (l_ (h:=w_ (f_ (h:=w_ (l_ (h:=w_ (bE (h:=wo_nil (e_ (h:=aft_normal (?_))))))))))))))))
     refine c_ (h1:=?_) (h2:=?_)
     rotate_right 1
     focus
      intro c5
      refine wc_skip (?_)
     rotate_right 1
     focus
      intro c5
      refine wa_ (wc_region (w_ (a_ (h:=wo_nil (e_ (h:=aft_normal (wc_ret (?_))))))))
     all_goals first
     | refine aft_ret ?_
     | (
      refine aft_normal ?_
      refine wa_ (wa_ (wc_region (w_ (f_ (h:=w_ (l_ (h:=w_ (f_ (h:=w_ (l_ (h:=w_ (bE (h:=wo_nil (e_ (h:=aft_normal (?_))))))))))))))))
      refine c_ (h1:=?_) (h2:=?_)
      rotate_right 1
      focus
       intro c6
       refine wc_skip (?_)
      rotate_right 1
      focus
       intro c6
       refine wa_ (wc_region (w_ (a_ (h:=wo_nil (e_ (h:=aft_normal (wc_ret (?_))))))))
      all_goals first
      | refine aft_ret ?_
      | (
       refine aft_normal ?_
       refine wa_ (wa_ (wc_region (w_ (f_ (h:=w_ (l_ (h:=w_ (f_ (h:=w_ (l_ (h:=w_ (ca (hc:=e_eqI _ _ _ _ (by omega) (by omega)) (h:=w_ (u_ (h:=wo_nil (e_ (h:=aft_normal (?_))))))))))))))))))
       refine c_ (h1:=?_) (h2:=?_)
       rotate_right 1
       focus
        intro c7
        refine wc_skip (?_)
       rotate_right 1
       focus
        intro c7
        refine wa_ (wc_region (w_ (a_ (h:=wo_nil (e_ (h:=aft_normal (wc_ret (?_))))))))
       all_goals first
       | refine aft_ret ?_
       | (
        refine aft_normal ?_
        refine wa_ (wc_region (w_ (a_ (h:=wo_nil (e_ (h:=aft_normal (wc_ret (?_))))))))
        )
       )
      )
     )
    )
   )
  )
 all_goals (refine fin_ (hr:=(res_tmp rfl res_nil)) (h:=?_);(focus (simp_all [Nd.eq_iff])))
def okN (l : List Nd) : Prop := ∀ d ∈ l,d.cells.length < 2000000
def okB (l : List Nd) : Prop := l.length ≤ 140737488351232 ∧ ∀ d ∈ l,d.cells.length ≤ 140737488351232
theorem szI_le {c : Nat} {a : Int} (h : 0 ≤ szI c a) : (c : Int) ≤ a := by
  unfold szI at h
  split at h <;> omega
theorem szL_ok : ∀ {l : List Nd} {a : Int},0 ≤ szL l a → ∀ d ∈ l,(d.cells.length : Int) ≤ a
  | [],a,h,d,hd => by cases hd
  | x :: r,a,h,d,hd => by
    unfold szL at h
    by_cases hc : szI x.cells.length a < 0
    · rw [if_pos hc] at h;omega
    · rw [if_neg hc] at h
      have h1 := szI_le (c:=x.cells.length) (a:=a) (by omega)
      rcases List.mem_cons.1 hd with rfl | hd
      · exact h1
      · have := szL_ok h d hd
        unfold szI at this
        split at this <;> omega
theorem l_szN (l : List Nd) (sz : Nat) (ho : okB l) : ∀ x : Nat × Int,(x.1 ≤ l.length ∧ 0 ≤ x.2 ∧ x.2 < 2000000) → ∀ s,normE 2 (some [0,1,5]) s = ⟨[(0,.lst false 0 (nds false sz l)),(1,.int .i64 x.2),(5,.int .i64 x.1)],[],2⟩ →
 oc.loop 38 5 s = some (if 0 ≤ szL (l.drop x.1) x.2 then (.exit 0,⟨[(1,.int .i64 (szL (l.drop x.1) x.2))],[],2⟩) else (.ret,⟨[(1,.int .i64 (-1)),(4,.int .i64 (-1))],[],2⟩)) := by
 refine loop_ind (σ:=Nat × Int) (fun x => l.length - x.1) _ (fun x => ⟨[(0,.lst false 0 (nds false sz l)),(1,.int .i64 x.2),(5,.int .i64 x.1)],[],2⟩) _ ?_
 rintro ⟨i,a⟩ ⟨hi,ha,hb⟩ ih s hs
 have hl := ho.1
 refine loop_s cd38 rfl rfl hs ?_
 refine wa_ (wa_ (wc_region (w_ (m_ (h:=w_ (m_ (h:=w_ (le (h:=w_ (b_ (h:=wo_nil (e_ (h:=aft_normal (?_))))))))))))))
 refine c_ (h1:=?_) (h2:=?_)
 rotate_right 1
 focus
  intro c1
  simp at c1 hi ha;have : i = l.length := (by omega);subst this
  refine wc_exit (?_)
 rotate_right 1
 focus
  intro c1
  simp at c1;have hw := wrap_succ (i:=i) (by simp at hi;omega);obtain ⟨d,hx,d1,g1⟩ := nds_cut (t:=false) (s:=sz) c1;have hd := ho.2 d (List.mem_of_getElem? hx)
  refine wc_skip (?_)
 all_goals first
 | refine aft_exit ?_
 | (
  refine aft_normal ?_
  refine wa_ (wc_block (wa_ (wc_region (w_ (m_ (h:=w_ (m_ (h:=w_ (x_ (h:=w_ (l_ (h:=w_ (m_ (h:=w_ (ca (hc:=e_szN false 0 d a (by omega) ha (by simp at hb;omega)) (h:=w_ (a_ (h:=wo_nil (e_ (h:=?_))))))))))))))))))))
  refine aft_normal (wa_ (wc_region (w_ (m_ (h:=w_ (b_ (h:=wo_nil (e_ (h:=aft_normal (?_))))))))))
  refine c_ (h1:=?_) (h2:=?_)
  rotate_right 1
  focus
   intro c2
   refine wc_skip (?_)
  rotate_right 1
  focus
   intro c2
   refine wa_ (wc_region (w_ (a_ (h:=wo_nil (e_ (h:=aft_normal (wc_ret (?_))))))))
  all_goals first | refine blk_normal ?_ | refine blk_ret ?_
  all_goals first
  | refine aft_ret ?_
  | (
   refine aft_normal ?_
   refine wc_region (w_ (m_ (h:=w_ (b_ (h:=w_ (a_ (h:=wo_nil (e_ (h:=?_)))))))))
   )
  )
 all_goals first
 | (refine (ih ((i + 1,szI d.cells.length a)) (⟨by simp;omega,by simp at c2;exact c2,by unfold szI;split <;> simp at hb ⊢ <;> omega⟩) ?_ _ ?_).trans ?_;(focus (first | omega | (simp;done) | (simp;omega)));(focus (simp [normE,hw];done));(focus (simp at c2;simp only [d1,szL,if_neg (Int.not_lt.mpr c2)])))
 | (apply end_leaf (ex:=Ext.ret) 2 (some [1,4]);(focus (simp [normE];rfl));(focus (simp at c2;have := szI_neg c2;simp [d1,szL,this])))
 | (apply end_leaf (ex:=(Ext.exit 0)) 2 (some [1,4]);(focus (simp [normE];rfl));(focus (simp [szL];omega)))
def szP (l : List Nd) (a : Int) : Int := if a < l.length then -1 else szL l (a - l.length)
theorem szP_ok {l : List Nd} {a : Int} (ha : a < 2000000) (h : 0 ≤ szP l a) : l.length < 2000000 ∧ okN l ∧ szP l a ≤ a := by
  unfold szP at *
  split at h
  · omega
  · rename_i hl
    rw [if_neg hl]
    have h2 : ∀ (l : List Nd) (a : Int),0 ≤ a → szL l a ≤ a := by
      intro l
      induction l with
      | nil => intro a ha;simp [szL]
      | cons x r ih =>
        intro a ha
        unfold szL
        split
        · omega
        · have h3 : szI x.cells.length a ≤ a := by unfold szI;split <;> omega
          have := ih (szI x.cells.length a) (by omega)
          omega
    have := h2 l (a - l.length) (by omega)
    exact ⟨by omega,fun d hd => by have := szL_ok h d hd;omega,by omega⟩
theorem e_szNS (l : List Nd) (sz : Nat) (a : Int) (ho : okB l) (ha : 0 ≤ a) (hb : a < 2000000) : oc.call 38 [.lst false 0 (nds false sz l),.int .i64 a] = some (.int .i64 (szP l a),[]) := by
 refine fun_s rfl cd38 rfl rfl rfl (by simp;rfl) (by simp;rfl) ?_
 unfold szP
 have hl := ho.1
 have hw : IntKind.i64.wrap (a - l.length) = a - l.length := wrap_id (by omega) (by omega)
 refine wa_ (wc_region (w_ (a_ (h:=wo_nil (e_ (h:=aft_normal (wa_ (wc_region (w_ (m_ (h:=w_ (m_ (h:=w_ (le (h:=w_ (b_ (h:=w_ (a_ (h:=?_)))))))))))))))))))
 refine wo_nil (e_ (h:=aft_normal (wa_ (wa_ (wc_region (w_ (m_ (h:=w_ (b_ (h:=wo_nil (e_ (h:=aft_normal (?_)))))))))))))
 refine c_ (h1:=?_) (h2:=?_)
 rotate_right 1
 focus
  intro c1
  simp [hw] at c1
  refine wc_skip (?_)
 rotate_right 1
 focus
  intro c1
  simp at c1
  refine wa_ (wc_region (w_ (a_ (h:=wo_nil (e_ (h:=aft_normal (wc_ret (?_))))))))
 all_goals first
 | refine aft_ret ?_
 | (
  refine aft_normal ?_
  refine wa_ (wa_ (wc_region (w_ (a_ (h:=wo_nil (e_ (h:=aft_normal (wc_block (?_)))))))))
  refine wc_loopI (l_szN l sz ho (0,a - l.length) ⟨by simp,by simp;omega,by simp;omega⟩ _ (by simp [normE,hw])) ?_ ?_
  rotate_right 1
  focus
   intro c2
   skip
  rotate_right 1
  focus
   intro c2
   skip
  all_goals first | refine blk_ret ?_ | refine blk_exit ?_
  all_goals first
  | refine aft_ret ?_
  | (
   refine aft_normal ?_
   refine wa_ (wc_region (w_ (m_ (h:=w_ (a_ (h:=wo_nil (e_ (h:=aft_normal (wc_ret (?_))))))))))
   )
  )
 all_goals (refine fin_ (hr:=(res_tmp rfl res_nil)) (h:=?_);(focus (first | (simp_all;done) | (have h3 := szL_neg (l:=l) (a:=a - l.length) (by omega) (by simpa using c2);simp_all;done) | (simp_all;omega))))
theorem l_toN (l : List Nd) (sz : Nat) (hl : l.length < 2000000) (ho : okN l) : ∀ x : Nat × List Nd,(x.1 ≤ l.length ∧ x.2.length = l.length ∧ x.2.take x.1 = l.take x.1) → ∀ s,normE 1 (some [0,3,4]) s = ⟨[(0,.lst false 0 (nds false sz l)),(3,.ref 1 0 l.length),(4,.int .i64 x.1)],[(1,⟨false,false,7,nds true 1 x.2,0⟩)],2⟩ →
 oc.loop 41 3 s = some (.exit 0,⟨[(3,.ref 1 0 l.length)],[(1,⟨false,false,7,nds true 1 l,0⟩)],2⟩) := by
 refine loop_ind (σ:=Nat × List Nd) (fun x => l.length - x.1) _ (fun x => ⟨[(0,.lst false 0 (nds false sz l)),(3,.ref 1 0 l.length),(4,.int .i64 x.1)],[(1,⟨false,false,7,nds true 1 x.2,0⟩)],2⟩) _ ?_
 rintro ⟨i,r⟩ ⟨hi,hr,ht⟩ ih s hs
 refine loop_s cd41 rfl rfl hs ?_
 refine wa_ (wa_ (wc_region (w_ (m_ (h:=w_ (m_ (h:=w_ (le (h:=w_ (b_ (h:=wo_nil (e_ (h:=aft_normal (?_))))))))))))))
 refine c_ (h1:=?_) (h2:=?_)
 rotate_right 1
 focus
  intro c1
  simp at c1 hi hr ht;have : i = l.length := (by omega);subst this;rw [← hr] at ht;simp at ht;rw [hr] at ht;simp at ht;subst ht
  refine wc_exit (?_)
 rotate_right 1
 focus
  intro c1
  simp at c1;have hw := wrap_succ (i:=i) (by simp at hi;omega);obtain ⟨d,hx,d1,g1⟩ := nds_cut (t:=false) (s:=sz) c1;have hd := ho d (List.mem_of_getElem? hx);obtain ⟨y,hy,_,g2⟩ := nds_cut (t:=true) (s:=1) (l:=r) (i:=i) (by simp at hr;omega);simp at g2
  refine wc_skip (?_)
 all_goals first
 | refine aft_exit ?_
 | (
  refine aft_normal ?_
  refine wa_ (wc_block (wc_region (w_ (m_ (h:=w_ (m_ (h:=w_ (m_ (h:=w_ (m_ (h:=w_ (x_ (h:=w_ (l_ (h:=w_ (ca (hc:=e_toN 0 d (by omega)) (h:=w_ (x_ (h:=w0 (s_ (h:=?_)))))))))))))))))))))
  refine wo_nil (e_ (h:=blk_normal (aft_normal (wc_region (w_ (m_ (h:=w_ (b_ (h:=w_ (a_ (h:=wo_nil (e_ (h:=?_)))))))))))))
  )
 all_goals first
 | (refine (ih ((i + 1,r.set i d)) (⟨by simp;omega,by simpa using hr,set_take ht hr hx⟩) ?_ _ ?_).trans ?_;(focus (first | omega | (simp;done) | (simp;omega)));(focus (simp [normE,hw];done));(focus (rfl)))
 | (apply end_leaf (ex:=(Ext.exit 0)) 1 (some [3]);(focus (simp [normE];rfl));(focus (simp)))
theorem e_toNS (l : List Nd) (sz : Nat) (hl : l.length < 2000000) (ho : okN l) : oc.call 41 [.lst false 0 (nds false sz l)] = some (.lst true 7 (nds true 1 l),[]) := by
 refine fun_s rfl cd41 rfl rfl rfl (by simp;rfl) (by simp;rfl) ?_
 refine wa_ (wc_region (w_ (aN (h:=wo_nil (e_ (h:=aft_normal (wa_ (wc_region (w_ (m_ (h:=w_ (le (h:=w_ (mk (h:=w_ (a_ (h:=wo_nil (e_ (h:=?_)))))))))))))))))))
 refine aft_normal (wa_ (wa_ (wc_region (w_ (a_ (h:=wo_nil (e_ (h:=aft_normal (wc_block (?_))))))))))
 refine wc_loop (l_toN l sz hl ho (0,List.replicate l.length ⟨0,0,0,0,0,0,[]⟩) (by simp) _ (by simp [normE,nds_zero])) ?_
 refine blk_exit (aft_normal (wa_ (wc_region (w_ (m_ (h:=w_ (a_ (h:=wo_nil (e_ (h:=aft_normal (wc_ret (?_))))))))))))
 all_goals (refine fin_ (hr:=(res_tmp rfl res_nil)) (h:=?_);(focus (first | (simp_all;done) | (simp_all <;> omega) | (simp_all <;> split <;> simp_all <;> omega))))
theorem l_eqNS (a b : List Nd) (z z' : Nat) (ha : a.length < 2000000) (hab : a.length = b.length) (oa : okN a) (ob : okN b) : ∀ i : Nat,i ≤ a.length → ∀ s,normE 2 (some [0,1,5]) s = ⟨[(0,.lst false 0 (nds false z a)),(1,.lst false 0 (nds false z' b)),(5,.int .i64 i)],[],2⟩ →
 oc.loop 44 4 s = some (if a.drop i = b.drop i then (.exit 0,⟨[],[],2⟩) else (.ret,⟨[(4,.bool false)],[],2⟩)) := by
 refine loop_ind (fun i => a.length - i) _ (fun i => ⟨[(0,.lst false 0 (nds false z a)),(1,.lst false 0 (nds false z' b)),(5,.int .i64 i)],[],2⟩) _ ?_
 intro i hi ih s hs
 refine loop_s cd44 rfl rfl hs ?_
 refine wa_ (wa_ (wc_region (w_ (m_ (h:=w_ (m_ (h:=w_ (le (h:=w_ (b_ (h:=wo_nil (e_ (h:=aft_normal (?_))))))))))))))
 refine c_ (h1:=?_) (h2:=?_)
 rotate_right 1
 focus
  intro c1
  simp at c1;have : i = a.length := (by omega);subst this
  refine wc_exit (?_)
 rotate_right 1
 focus
  intro c1
  simp at c1;have hw := wrap_succ (i:=i) (by omega);obtain ⟨x,hx,d1,g1⟩ := nds_cut (t:=false) (s:=z) c1;obtain ⟨y,hy,d2,g2⟩ := nds_cut (t:=false) (s:=z') (l:=b) (i:=i) (by omega);have h1 := oa x (List.mem_of_getElem? hx);have h2 := ob y (List.mem_of_getElem? hy)
  refine wc_skip (?_)
 all_goals first
 | refine aft_exit ?_
 | (
  refine aft_normal ?_
  refine wa_ (wc_block (wa_ (wc_draw (y_ (m_ (h:=ax_ (h:=y_ (m_ (h:=ax_ (h:=y_ (x_ (h:=ax_ (h:=y_ (l_ (h:=ax_ (h:=y_ (m_ (h:=ax_ (h:=y_ (m_ (h:=ax_ (h:=y_ (x_ (h:=ax_ (h:=y_ (l_ (h:=ax_ (h:=?_))))))))))))))))))))))))))))
  refine y_ (ca (hc:=e_eqN 0 0 x y (by omega) (by omega)) (h:=ax_ (h:=y_ (u_ (h:=ax_ (h:=wo_nil (ed (h:=aft_normal (?_)))))))))
  refine c_ (h1:=?_) (h2:=?_)
  rotate_right 1
  focus
   intro c2
   refine wc_skip (?_)
  rotate_right 1
  focus
   intro c2
   refine wa_ (wc_region (w_ (a_ (h:=wo_nil (e_ (h:=aft_normal (wc_ret (?_))))))))
  all_goals first | refine blk_normal ?_ | refine blk_ret ?_
  all_goals first
  | refine aft_ret ?_
  | (
   refine aft_normal ?_
   refine wc_region (w_ (m_ (h:=w_ (b_ (h:=w_ (a_ (h:=wo_nil (e_ (h:=?_)))))))))
   )
  )
 all_goals first
 | (refine (ih (i + 1) (by omega) ?_ _ ?_).trans ?_;(focus (first | omega | (simp;done) | (simp;omega)));(focus (simp [normE,hw];done));(focus (simp at c2;rw [d1,d2];simp [c2])))
 | (apply end_leaf (ex:=Ext.ret) 2 (some [4]);(focus (simp [normE];rfl));(focus (simp at c2;rw [d1,d2];simp [c2])))
 | (apply end_leaf (ex:=(Ext.exit 0)) 2 (some [4]);(focus (simp [normE];rfl));(focus (rw [if_pos (by simp [hab])])))
theorem e_eqNS (a b : List Nd) (z z' : Nat) (ha : a.length < 2000000) (hb : b.length < 2000000) (oa : okN a) (ob : okN b) : oc.call 44 [.lst false 0 (nds false z a),.lst false 0 (nds false z' b)] = some (.bool (decide (a = b)),[]) := by
 refine fun_s rfl cd44 rfl rfl rfl (by simp;rfl) (by simp;rfl) ?_
 refine wa_ (wc_region (w_ (a_ (h:=wo_nil (e_ (h:=aft_normal (wa_ (wa_ (wc_region (w_ (m_ (h:=w_ (le (h:=w_ (m_ (h:=w_ (le (h:=?_))))))))))))))))))
 refine w_ (bE (h:=wo_nil (e_ (h:=aft_normal (?_)))))
 refine c_ (h1:=?_) (h2:=?_)
 rotate_right 1
 focus
  intro c1
  simp at c1
  refine wc_skip (?_)
 rotate_right 1
 focus
  intro c1
  simp at c1;have hne : a ≠ b := (by rintro rfl;exact c1 rfl)
  refine wa_ (wc_region (w_ (a_ (h:=wo_nil (e_ (h:=aft_normal (wc_ret (?_))))))))
 all_goals first
 | refine aft_ret ?_
 | (
  refine aft_normal ?_
  refine wa_ (wa_ (wc_region (w_ (a_ (h:=wo_nil (e_ (h:=aft_normal (wc_block (?_)))))))))
  refine wc_loopI (l_eqNS a b z z' ha (by omega) oa ob 0 (by omega) _ (by simp [normE])) ?_ ?_
  rotate_right 1
  focus
   intro c2
   skip
  rotate_right 1
  focus
   intro c2
   skip
  all_goals first | refine blk_ret ?_ | refine blk_exit ?_
  all_goals first
  | refine aft_ret ?_
  | (
   refine aft_normal ?_
   refine wa_ (wc_region (w_ (a_ (h:=wo_nil (e_ (h:=aft_normal (wc_ret (?_))))))))
   )
  )
 all_goals (refine fin_ (hr:=(res_tmp rfl res_nil)) (h:=?_);(focus (first | (simp_all;done) | (simp_all <;> omega) | (simp_all <;> split <;> simp_all <;> omega))))
def lz (t : Bool) (n : Nat) : Nat := match t with | true => n | false => 0
@[simp] theorem lz_t (n : Nat) : lz true n = n := rfl
@[simp] theorem lz_f (n : Nat) : lz false n = 0 := rfl
theorem lst_share (t : Bool) (s : Nat) (xs : List V) : (V.lst t s xs).share = .lst false 0 (V.shareL xs) := by cases t <;> rfl
theorem lst_mention (t : Bool) (s : Nat) (xs : List V) : (V.lst t s xs).mention = [] := by cases t <;> rfl
structure Ct where
  pl : Int
  ep : Int
  n : Int
  deriving DecidableEq
theorem Ct.eq_iff {d g : Ct} : d = g ↔ d.pl = g.pl ∧ d.ep = g.ep ∧ d.n = g.n := by
  cases d;cases g;simp
def Ct.v (x : Ct) : V := .agg [.int .i64 x.pl,.int .i64 x.ep,.int .i64 x.n]
def cts (l : List Ct) : List V := l.map (Ct.v)
@[simp] theorem cts_len (l : List Ct) : (cts l).length = l.length := by simp [cts]
@[simp] theorem cts_nil : cts [] = [] := rfl
@[simp] theorem cts_cons (x : Ct) (l : List Ct) : cts (x :: l) = x.v :: cts l := rfl
@[simp] theorem cts_join (l m : List Ct) : cts l ++ cts m = cts (l ++ m) := by simp [cts]
@[simp] theorem cts_snoc (l : List Ct) (x : Ct) : cts l ++ [x.v] = cts (l ++ [x]) := by simp [cts]
@[simp] theorem cts_snoc2 (l : List Ct) (a : Int) (b : Int) (c : Int) : cts l ++ [V.agg [.int .i64 a,.int .i64 b,.int .i64 c]] = cts (l ++ [⟨a,b,c⟩]) := by simp [cts,Ct.v]
@[simp] theorem cts_set2 (l : List Ct) (j : Nat) (a : Int) (b : Int) (c : Int) : (cts l).set j (V.agg [.int .i64 a,.int .i64 b,.int .i64 c]) = cts (l.set j ⟨a,b,c⟩) := by simp [cts,Ct.v,List.map_set]
@[simp] theorem cts_set (l : List Ct) (i : Nat) (x : Ct) : (cts l).set i (x.v) = cts (l.set i x) := by simp [cts,List.map_set]
theorem cts_get {l : List Ct} {i : Nat} {x : Ct} (h : l[i]? = some x) : (cts l)[i]? = some (x.v) := by simp [cts,h]
theorem cts_at {l : List Ct} {i : Nat} (h : i < l.length) : (cts l)[(i : Int).toNat]? = some (l[i].v) := cts_get (by simp [h])
theorem cts_cut {l : List Ct} {i : Nat} (h : i < l.length) : ∃ x,l[i]? = some x ∧ l.drop i = x :: l.drop (i + 1) ∧ (cts l)[(i : Int).toNat]? = some (x.v) :=
  ⟨l[i],by simp [h],List.drop_eq_getElem_cons h,cts_at h⟩
@[simp] theorem cts_take (n : Nat) (l : List Ct) : (cts l).take n = cts (l.take n) := by simp [cts,List.map_take]
@[simp] theorem cts_drop (n : Nat) (l : List Ct) : (cts l).drop n = cts (l.drop n) := by simp [cts,List.map_drop]
@[simp] theorem Ct.cells_v (x : Ct) : (x.v).cells = 3 := rfl
@[simp] theorem Ct.mention (x : Ct) : V.mention (x.v) = [] := by simp [Ct.v,V.mention,V.mentionL,lst_mention]
@[simp] theorem Ct.share (x : Ct) : (x.v).share = x.v := by simp [Ct.v,V.share,V.shareL,lst_share]
@[simp] theorem cts_shareL (l : List Ct) : V.shareL (cts l) = cts l := by
  induction l with
  | nil => rfl
  | cons x l ih => simp [V.shareL,ih]
@[simp] theorem Ct.snap (x : Ct) (q : St) : V.snap q (x.v) = some (x.v) := by simp [Ct.v,V.snap,V.snapL,mp]
@[simp] theorem Ct.snapA (x : Ct) (q : St) : V.snapA q (x.v) = some (x.v) := Ct.snap x q
@[simp] theorem Ct.snapP (x : Ct) (q : St) : V.snapP q (x.v) = some (x.v) := Ct.snap x q
@[simp] theorem Ct.accM (x : Ct) : V.accM (x.v) = [] := by simp [Ct.v,V.accM,V.accML]
@[simp] theorem Ct.accF (x : Ct) : V.accF (x.v) = [] := by simp [Ct.v,V.accF,V.accFL]
@[simp] theorem Ct.ren (x : Ct) (ρ : Nat → Option Nat) (vr : Nat → Nat) : V.ren ρ vr (x.v) = x.v := by simp [Ct.v,V.ren,V.renL]
@[simp] theorem Ct.bA (i : Nat) (x : Ct) (r : List V) : bindArgs i (x.v :: r) = ((i,x.v) :: (bindArgs (i + 1) r).1,(bindArgs (i + 1) r).2) := rfl
@[simp] theorem Ct.lodF (x : Ct) (o i ver : Nat) (fs : List Nat) : V.lod o i ver fs (x.v) = x.v := by simp [Ct.v,V.lod,V.lodL]
@[simp] theorem Ct.fz (x : Ct) (s : St) : V.fz x.v s = some (x.v,s) := by simp [Ct.v,V.fz,V.fzL,mp]
@[simp] theorem Ct.fzI (x : Ct) (s : St) : V.fzI x.v s = some (x.v,s) := by simp [Ct.v,V.fz,V.fzI,V.fzIL,mp]
@[simp] theorem Ct.scal (x : Ct) : V.scal (x.v) = true := by simp [Ct.v,V.scal,V.scalL]
@[simp] theorem Ct.isTup (x : Ct) : (x.v).isTup = false := rfl
@[simp] theorem Ct.tidyT (x : Ct) : V.tidy (x.v) = true := by simp [Ct.v,V.tidy,V.tidyL]
@[simp] theorem cts_tidyT (l : List Ct) : V.tidyL (cts l) = true := by
  induction l with
  | nil => rfl
  | cons x l ih => simp [V.tidyL,ih]
@[simp] theorem Ct.thaw (x : Ct) (id : Nat) : V.thaw id x.v = (x.v,[],id) := by simp [Ct.v,V.thaw,V.thawL]
structure Et where
  row : List Int
  w : Int
  deriving DecidableEq
theorem Et.eq_iff {d g : Et} : d = g ↔ d.row = g.row ∧ d.w = g.w := by
  cases d;cases g;simp
def Et.v (t : Bool) (x : Et) : V := .agg [.lst t (lz t 1) (ints x.row),.int .i64 x.w]
def ets (t : Bool) (l : List Et) : List V := l.map (Et.v t)
@[simp] theorem ets_len (t : Bool) (l : List Et) : (ets t l).length = l.length := by simp [ets]
@[simp] theorem ets_nil (t : Bool) : ets t [] = [] := rfl
@[simp] theorem ets_cons (t : Bool) (x : Et) (l : List Et) : ets t (x :: l) = x.v t :: ets t l := rfl
@[simp] theorem ets_join (t : Bool) (l m : List Et) : ets t l ++ ets t m = ets t (l ++ m) := by simp [ets]
@[simp] theorem ets_snoc (t : Bool) (l : List Et) (x : Et) : ets t l ++ [x.v t] = ets t (l ++ [x]) := by simp [ets]
@[simp] theorem ets_snocT2 (l : List Et) (a : List Int) (b : Int) : ets true l ++ [V.agg [.lst true 1 (ints a),.int .i64 b]] = ets true (l ++ [⟨a,b⟩]) := by simp [ets,Et.v]
@[simp] theorem ets_setT2 (l : List Et) (j : Nat) (a : List Int) (b : Int) : (ets true l).set j (V.agg [.lst true 1 (ints a),.int .i64 b]) = ets true (l.set j ⟨a,b⟩) := by simp [ets,Et.v,List.map_set]
@[simp] theorem ets_snocF2 (l : List Et) (a : List Int) (b : Int) : ets false l ++ [V.agg [.lst false 0 (ints a),.int .i64 b]] = ets false (l ++ [⟨a,b⟩]) := by simp [ets,Et.v]
@[simp] theorem ets_setF2 (l : List Et) (j : Nat) (a : List Int) (b : Int) : (ets false l).set j (V.agg [.lst false 0 (ints a),.int .i64 b]) = ets false (l.set j ⟨a,b⟩) := by simp [ets,Et.v,List.map_set]
@[simp] theorem ets_set (t : Bool) (l : List Et) (i : Nat) (x : Et) : (ets t l).set i (x.v t) = ets t (l.set i x) := by simp [ets,List.map_set]
theorem ets_get {t : Bool} {l : List Et} {i : Nat} {x : Et} (h : l[i]? = some x) : (ets t l)[i]? = some (x.v t) := by simp [ets,h]
theorem ets_at {t : Bool} {l : List Et} {i : Nat} (h : i < l.length) : (ets t l)[(i : Int).toNat]? = some (l[i].v t) := ets_get (by simp [h])
theorem ets_cut {t : Bool} {l : List Et} {i : Nat} (h : i < l.length) : ∃ x,l[i]? = some x ∧ l.drop i = x :: l.drop (i + 1) ∧ (ets t l)[(i : Int).toNat]? = some (x.v t) :=
  ⟨l[i],by simp [h],List.drop_eq_getElem_cons h,ets_at h⟩
@[simp] theorem ets_take (t : Bool) (n : Nat) (l : List Et) : (ets t l).take n = ets t (l.take n) := by simp [ets,List.map_take]
@[simp] theorem ets_drop (t : Bool) (n : Nat) (l : List Et) : (ets t l).drop n = ets t (l.drop n) := by simp [ets,List.map_drop]
@[simp] theorem Et.cells_v (t : Bool) (x : Et) : (x.v t).cells = 2 := rfl
@[simp] theorem Et.mention (t : Bool) (x : Et) : V.mention (x.v t) = [] := by simp [Et.v,V.mention,V.mentionL,lst_mention]
@[simp] theorem Et.share (t : Bool) (x : Et) : (x.v t).share = x.v false := by simp [Et.v,V.share,V.shareL,lst_share,ints_share]
@[simp] theorem ets_shareL (t : Bool) (l : List Et) : V.shareL (ets t l) = ets false l := by
  induction l with
  | nil => rfl
  | cons x l ih => simp [V.shareL,ih]
@[simp] theorem Et.snap (t : Bool) (x : Et) (q : St) : V.snap q (x.v t) = some (x.v false) := by simp [Et.v,V.snap,V.snapL,mp,ints_share]
@[simp] theorem Et.snapA (t : Bool) (x : Et) (q : St) : V.snapA q (x.v t) = some (x.v false) := Et.snap t x q
@[simp] theorem Et.snapP (t : Bool) (x : Et) (q : St) : V.snapP q (x.v t) = some (x.v false) := Et.snap t x q
@[simp] theorem Et.accM (t : Bool) (x : Et) : V.accM (x.v t) = [] := by simp [Et.v,V.accM,V.accML]
@[simp] theorem Et.accF (t : Bool) (x : Et) : V.accF (x.v t) = [] := by simp [Et.v,V.accF,V.accFL]
@[simp] theorem Et.ren (t : Bool) (x : Et) (ρ : Nat → Option Nat) (vr : Nat → Nat) : V.ren ρ vr (x.v t) = x.v t := by simp [Et.v,V.ren,V.renL]
@[simp] theorem Et.bA (i : Nat) (t : Bool) (x : Et) (r : List V) : bindArgs i (x.v t :: r) = ((i,x.v t) :: (bindArgs (i + 1) r).1,(bindArgs (i + 1) r).2) := rfl
@[simp] theorem Et.lodF (x : Et) (o i ver : Nat) (fs : List Nat) : V.lod o i ver fs (x.v false) = x.v false := by simp [Et.v,V.lod,V.lodL]
@[simp] theorem Et.fzF (x : Et) (s : St) : V.fz (x.v false) s = some (x.v false,s) := by simp [Et.v,V.fz,V.fzL,mp]
@[simp] theorem Et.fzI (t : Bool) (x : Et) (s : St) : V.fzI (x.v t) s = some (x.v t,s) := by cases t <;> simp [Et.v,V.fz,V.fzI,V.fzIL,mp]
@[simp] theorem Et.scal (t : Bool) (x : Et) : V.scal (x.v t) = false := by simp [Et.v,V.scal,V.scalL]
@[simp] theorem Et.isTup (t : Bool) (x : Et) : (x.v t).isTup = false := rfl
@[simp] theorem Et.tidyT (x : Et) : V.tidy (x.v true) = true := by simp [Et.v,V.tidy,V.tidyL,ints_tidy]
@[simp] theorem ets_tidyT (l : List Et) : V.tidyL (ets true l) = true := by
  induction l with
  | nil => rfl
  | cons x l ih => simp [V.tidyL,ih]
@[simp] theorem Et.thawF (x : Et) (id : Nat) : V.thaw id (x.v false) = (x.v false,[],id) := by simp [Et.v,V.thaw,V.thawL]
@[simp] theorem Et.thawT (x : Et) (id : Nat) : V.thaw id (x.v true) = (.agg [.ref (id) 0 x.row.length,.int .i64 x.w],[(id,⟨false,false,1,ints x.row,0⟩)],id + 1) := by simp [Et.v,V.thaw,V.thawL]
structure Fr where
  kind : Int
  node : Int
  side : Int
  ep : Int
  set : List Et
  news : List Ct
  deriving DecidableEq
theorem Fr.eq_iff {d g : Fr} : d = g ↔ d.kind = g.kind ∧ d.node = g.node ∧ d.side = g.side ∧ d.ep = g.ep ∧ d.set = g.set ∧ d.news = g.news := by
  cases d;cases g;simp
def Fr.v (t : Bool) (x : Fr) : V := .agg [.int .i64 x.kind,.int .i64 x.node,.int .i64 x.side,.int .i64 x.ep,.lst t (lz t 2) (ets t x.set),.lst t (lz t 3) (cts x.news)]
def frs (t : Bool) (l : List Fr) : List V := l.map (Fr.v t)
@[simp] theorem frs_len (t : Bool) (l : List Fr) : (frs t l).length = l.length := by simp [frs]
@[simp] theorem frs_nil (t : Bool) : frs t [] = [] := rfl
@[simp] theorem frs_cons (t : Bool) (x : Fr) (l : List Fr) : frs t (x :: l) = x.v t :: frs t l := rfl
@[simp] theorem frs_join (t : Bool) (l m : List Fr) : frs t l ++ frs t m = frs t (l ++ m) := by simp [frs]
@[simp] theorem frs_snoc (t : Bool) (l : List Fr) (x : Fr) : frs t l ++ [x.v t] = frs t (l ++ [x]) := by simp [frs]
@[simp] theorem frs_snocT2 (l : List Fr) (a : Int) (b : Int) (c : Int) (d : Int) (e : List Et) (f : List Ct) : frs true l ++ [V.agg [.int .i64 a,.int .i64 b,.int .i64 c,.int .i64 d,.lst true 2 (ets true e),.lst true 3 (cts f)]] = frs true (l ++ [⟨a,b,c,d,e,f⟩]) := by simp [frs,Fr.v]
@[simp] theorem frs_setT2 (l : List Fr) (j : Nat) (a : Int) (b : Int) (c : Int) (d : Int) (e : List Et) (f : List Ct) : (frs true l).set j (V.agg [.int .i64 a,.int .i64 b,.int .i64 c,.int .i64 d,.lst true 2 (ets true e),.lst true 3 (cts f)]) = frs true (l.set j ⟨a,b,c,d,e,f⟩) := by simp [frs,Fr.v,List.map_set]
@[simp] theorem frs_snocF2 (l : List Fr) (a : Int) (b : Int) (c : Int) (d : Int) (e : List Et) (f : List Ct) : frs false l ++ [V.agg [.int .i64 a,.int .i64 b,.int .i64 c,.int .i64 d,.lst false 0 (ets false e),.lst false 0 (cts f)]] = frs false (l ++ [⟨a,b,c,d,e,f⟩]) := by simp [frs,Fr.v]
@[simp] theorem frs_setF2 (l : List Fr) (j : Nat) (a : Int) (b : Int) (c : Int) (d : Int) (e : List Et) (f : List Ct) : (frs false l).set j (V.agg [.int .i64 a,.int .i64 b,.int .i64 c,.int .i64 d,.lst false 0 (ets false e),.lst false 0 (cts f)]) = frs false (l.set j ⟨a,b,c,d,e,f⟩) := by simp [frs,Fr.v,List.map_set]
@[simp] theorem frs_set (t : Bool) (l : List Fr) (i : Nat) (x : Fr) : (frs t l).set i (x.v t) = frs t (l.set i x) := by simp [frs,List.map_set]
theorem frs_get {t : Bool} {l : List Fr} {i : Nat} {x : Fr} (h : l[i]? = some x) : (frs t l)[i]? = some (x.v t) := by simp [frs,h]
theorem frs_at {t : Bool} {l : List Fr} {i : Nat} (h : i < l.length) : (frs t l)[(i : Int).toNat]? = some (l[i].v t) := frs_get (by simp [h])
theorem frs_cut {t : Bool} {l : List Fr} {i : Nat} (h : i < l.length) : ∃ x,l[i]? = some x ∧ l.drop i = x :: l.drop (i + 1) ∧ (frs t l)[(i : Int).toNat]? = some (x.v t) :=
  ⟨l[i],by simp [h],List.drop_eq_getElem_cons h,frs_at h⟩
@[simp] theorem frs_take (t : Bool) (n : Nat) (l : List Fr) : (frs t l).take n = frs t (l.take n) := by simp [frs,List.map_take]
@[simp] theorem frs_drop (t : Bool) (n : Nat) (l : List Fr) : (frs t l).drop n = frs t (l.drop n) := by simp [frs,List.map_drop]
@[simp] theorem Fr.cells_v (t : Bool) (x : Fr) : (x.v t).cells = 6 := rfl
@[simp] theorem Fr.mention (t : Bool) (x : Fr) : V.mention (x.v t) = [] := by simp [Fr.v,V.mention,V.mentionL,lst_mention]
@[simp] theorem Fr.share (t : Bool) (x : Fr) : (x.v t).share = x.v false := by simp [Fr.v,V.share,V.shareL,lst_share,ets_shareL,cts_shareL]
@[simp] theorem frs_shareL (t : Bool) (l : List Fr) : V.shareL (frs t l) = frs false l := by
  induction l with
  | nil => rfl
  | cons x l ih => simp [V.shareL,ih]
@[simp] theorem Fr.snap (t : Bool) (x : Fr) (q : St) : V.snap q (x.v t) = some (x.v false) := by simp [Fr.v,V.snap,V.snapL,mp,ets_shareL,cts_shareL]
@[simp] theorem Fr.snapA (t : Bool) (x : Fr) (q : St) : V.snapA q (x.v t) = some (x.v false) := Fr.snap t x q
@[simp] theorem Fr.snapP (t : Bool) (x : Fr) (q : St) : V.snapP q (x.v t) = some (x.v false) := Fr.snap t x q
@[simp] theorem Fr.accM (t : Bool) (x : Fr) : V.accM (x.v t) = [] := by simp [Fr.v,V.accM,V.accML]
@[simp] theorem Fr.accF (t : Bool) (x : Fr) : V.accF (x.v t) = [] := by simp [Fr.v,V.accF,V.accFL]
@[simp] theorem Fr.ren (t : Bool) (x : Fr) (ρ : Nat → Option Nat) (vr : Nat → Nat) : V.ren ρ vr (x.v t) = x.v t := by simp [Fr.v,V.ren,V.renL]
@[simp] theorem Fr.bA (i : Nat) (t : Bool) (x : Fr) (r : List V) : bindArgs i (x.v t :: r) = ((i,x.v t) :: (bindArgs (i + 1) r).1,(bindArgs (i + 1) r).2) := rfl
@[simp] theorem Fr.lodF (x : Fr) (o i ver : Nat) (fs : List Nat) : V.lod o i ver fs (x.v false) = x.v false := by simp [Fr.v,V.lod,V.lodL]
@[simp] theorem Fr.fzF (x : Fr) (s : St) : V.fz (x.v false) s = some (x.v false,s) := by simp [Fr.v,V.fz,V.fzL,mp]
@[simp] theorem Fr.fzI (t : Bool) (x : Fr) (s : St) : V.fzI (x.v t) s = some (x.v t,s) := by cases t <;> simp [Fr.v,V.fz,V.fzI,V.fzIL,mp]
@[simp] theorem Fr.scal (t : Bool) (x : Fr) : V.scal (x.v t) = false := by simp [Fr.v,V.scal,V.scalL]
@[simp] theorem Fr.isTup (t : Bool) (x : Fr) : (x.v t).isTup = false := rfl
@[simp] theorem Fr.tidyT (x : Fr) : V.tidy (x.v true) = true := by simp [Fr.v,V.tidy,V.tidyL,ets_tidyT,cts_tidyT]
@[simp] theorem frs_tidyT (l : List Fr) : V.tidyL (frs true l) = true := by
  induction l with
  | nil => rfl
  | cons x l ih => simp [V.tidyL,ih]
@[simp] theorem Fr.thawF (x : Fr) (id : Nat) : V.thaw id (x.v false) = (x.v false,[],id) := by simp [Fr.v,V.thaw,V.thawL]
@[simp] theorem Fr.thawT (x : Fr) (id : Nat) : V.thaw id (x.v true) = (.agg [.int .i64 x.kind,.int .i64 x.node,.int .i64 x.side,.int .i64 x.ep,.ref (id) 0 x.set.length,.ref (id + 1) 0 x.news.length],[(id,⟨false,false,2,ets true x.set,0⟩),(id + 1,⟨false,false,3,cts x.news,0⟩)],id + 1 + 1) := by simp [Fr.v,V.thaw,V.thawL]
structure Bt where
  side : Int
  ep : Int
  set : List Et
  deriving DecidableEq
theorem Bt.eq_iff {d g : Bt} : d = g ↔ d.side = g.side ∧ d.ep = g.ep ∧ d.set = g.set := by
  cases d;cases g;simp
def Bt.v (t : Bool) (x : Bt) : V := .agg [.int .i64 x.side,.int .i64 x.ep,.lst t (lz t 2) (ets t x.set)]
def bts (t : Bool) (l : List Bt) : List V := l.map (Bt.v t)
@[simp] theorem bts_len (t : Bool) (l : List Bt) : (bts t l).length = l.length := by simp [bts]
@[simp] theorem bts_nil (t : Bool) : bts t [] = [] := rfl
@[simp] theorem bts_cons (t : Bool) (x : Bt) (l : List Bt) : bts t (x :: l) = x.v t :: bts t l := rfl
@[simp] theorem bts_join (t : Bool) (l m : List Bt) : bts t l ++ bts t m = bts t (l ++ m) := by simp [bts]
@[simp] theorem bts_snoc (t : Bool) (l : List Bt) (x : Bt) : bts t l ++ [x.v t] = bts t (l ++ [x]) := by simp [bts]
@[simp] theorem bts_snocT2 (l : List Bt) (a : Int) (b : Int) (c : List Et) : bts true l ++ [V.agg [.int .i64 a,.int .i64 b,.lst true 2 (ets true c)]] = bts true (l ++ [⟨a,b,c⟩]) := by simp [bts,Bt.v]
@[simp] theorem bts_setT2 (l : List Bt) (j : Nat) (a : Int) (b : Int) (c : List Et) : (bts true l).set j (V.agg [.int .i64 a,.int .i64 b,.lst true 2 (ets true c)]) = bts true (l.set j ⟨a,b,c⟩) := by simp [bts,Bt.v,List.map_set]
@[simp] theorem bts_snocF2 (l : List Bt) (a : Int) (b : Int) (c : List Et) : bts false l ++ [V.agg [.int .i64 a,.int .i64 b,.lst false 0 (ets false c)]] = bts false (l ++ [⟨a,b,c⟩]) := by simp [bts,Bt.v]
@[simp] theorem bts_setF2 (l : List Bt) (j : Nat) (a : Int) (b : Int) (c : List Et) : (bts false l).set j (V.agg [.int .i64 a,.int .i64 b,.lst false 0 (ets false c)]) = bts false (l.set j ⟨a,b,c⟩) := by simp [bts,Bt.v,List.map_set]
@[simp] theorem bts_set (t : Bool) (l : List Bt) (i : Nat) (x : Bt) : (bts t l).set i (x.v t) = bts t (l.set i x) := by simp [bts,List.map_set]
theorem bts_get {t : Bool} {l : List Bt} {i : Nat} {x : Bt} (h : l[i]? = some x) : (bts t l)[i]? = some (x.v t) := by simp [bts,h]
theorem bts_at {t : Bool} {l : List Bt} {i : Nat} (h : i < l.length) : (bts t l)[(i : Int).toNat]? = some (l[i].v t) := bts_get (by simp [h])
theorem bts_cut {t : Bool} {l : List Bt} {i : Nat} (h : i < l.length) : ∃ x,l[i]? = some x ∧ l.drop i = x :: l.drop (i + 1) ∧ (bts t l)[(i : Int).toNat]? = some (x.v t) :=
  ⟨l[i],by simp [h],List.drop_eq_getElem_cons h,bts_at h⟩
@[simp] theorem bts_take (t : Bool) (n : Nat) (l : List Bt) : (bts t l).take n = bts t (l.take n) := by simp [bts,List.map_take]
@[simp] theorem bts_drop (t : Bool) (n : Nat) (l : List Bt) : (bts t l).drop n = bts t (l.drop n) := by simp [bts,List.map_drop]
@[simp] theorem Bt.cells_v (t : Bool) (x : Bt) : (x.v t).cells = 3 := rfl
@[simp] theorem Bt.mention (t : Bool) (x : Bt) : V.mention (x.v t) = [] := by simp [Bt.v,V.mention,V.mentionL,lst_mention]
@[simp] theorem Bt.share (t : Bool) (x : Bt) : (x.v t).share = x.v false := by simp [Bt.v,V.share,V.shareL,lst_share,ets_shareL]
@[simp] theorem bts_shareL (t : Bool) (l : List Bt) : V.shareL (bts t l) = bts false l := by
  induction l with
  | nil => rfl
  | cons x l ih => simp [V.shareL,ih]
@[simp] theorem Bt.snap (t : Bool) (x : Bt) (q : St) : V.snap q (x.v t) = some (x.v false) := by simp [Bt.v,V.snap,V.snapL,mp,ets_shareL]
@[simp] theorem Bt.snapA (t : Bool) (x : Bt) (q : St) : V.snapA q (x.v t) = some (x.v false) := Bt.snap t x q
@[simp] theorem Bt.snapP (t : Bool) (x : Bt) (q : St) : V.snapP q (x.v t) = some (x.v false) := Bt.snap t x q
@[simp] theorem Bt.accM (t : Bool) (x : Bt) : V.accM (x.v t) = [] := by simp [Bt.v,V.accM,V.accML]
@[simp] theorem Bt.accF (t : Bool) (x : Bt) : V.accF (x.v t) = [] := by simp [Bt.v,V.accF,V.accFL]
@[simp] theorem Bt.ren (t : Bool) (x : Bt) (ρ : Nat → Option Nat) (vr : Nat → Nat) : V.ren ρ vr (x.v t) = x.v t := by simp [Bt.v,V.ren,V.renL]
@[simp] theorem Bt.bA (i : Nat) (t : Bool) (x : Bt) (r : List V) : bindArgs i (x.v t :: r) = ((i,x.v t) :: (bindArgs (i + 1) r).1,(bindArgs (i + 1) r).2) := rfl
@[simp] theorem Bt.lodF (x : Bt) (o i ver : Nat) (fs : List Nat) : V.lod o i ver fs (x.v false) = x.v false := by simp [Bt.v,V.lod,V.lodL]
@[simp] theorem Bt.fzF (x : Bt) (s : St) : V.fz (x.v false) s = some (x.v false,s) := by simp [Bt.v,V.fz,V.fzL,mp]
@[simp] theorem Bt.fzI (t : Bool) (x : Bt) (s : St) : V.fzI (x.v t) s = some (x.v t,s) := by cases t <;> simp [Bt.v,V.fz,V.fzI,V.fzIL,mp]
@[simp] theorem Bt.scal (t : Bool) (x : Bt) : V.scal (x.v t) = false := by simp [Bt.v,V.scal,V.scalL]
@[simp] theorem Bt.isTup (t : Bool) (x : Bt) : (x.v t).isTup = false := rfl
@[simp] theorem Bt.tidyT (x : Bt) : V.tidy (x.v true) = true := by simp [Bt.v,V.tidy,V.tidyL,ets_tidyT]
@[simp] theorem bts_tidyT (l : List Bt) : V.tidyL (bts true l) = true := by
  induction l with
  | nil => rfl
  | cons x l ih => simp [V.tidyL,ih]
@[simp] theorem Bt.thawF (x : Bt) (id : Nat) : V.thaw id (x.v false) = (x.v false,[],id) := by simp [Bt.v,V.thaw,V.thawL]
@[simp] theorem Bt.thawT (x : Bt) (id : Nat) : V.thaw id (x.v true) = (.agg [.int .i64 x.side,.int .i64 x.ep,.ref (id) 0 x.set.length],[(id,⟨false,false,2,ets true x.set,0⟩)],id + 1) := by simp [Bt.v,V.thaw,V.thawL]
structure Hd where
  oldA : List Et
  oldB : List Et
  waits : List Bt
  told : Int
  deriving DecidableEq
theorem Hd.eq_iff {d g : Hd} : d = g ↔ d.oldA = g.oldA ∧ d.oldB = g.oldB ∧ d.waits = g.waits ∧ d.told = g.told := by
  cases d;cases g;simp
def Hd.v (t : Bool) (x : Hd) : V := .agg [.lst t (lz t 2) (ets t x.oldA),.lst t (lz t 2) (ets t x.oldB),.lst t (lz t 3) (bts t x.waits),.int .i64 x.told]
def hds (t : Bool) (l : List Hd) : List V := l.map (Hd.v t)
@[simp] theorem hds_len (t : Bool) (l : List Hd) : (hds t l).length = l.length := by simp [hds]
@[simp] theorem hds_nil (t : Bool) : hds t [] = [] := rfl
@[simp] theorem hds_cons (t : Bool) (x : Hd) (l : List Hd) : hds t (x :: l) = x.v t :: hds t l := rfl
@[simp] theorem hds_join (t : Bool) (l m : List Hd) : hds t l ++ hds t m = hds t (l ++ m) := by simp [hds]
@[simp] theorem hds_snoc (t : Bool) (l : List Hd) (x : Hd) : hds t l ++ [x.v t] = hds t (l ++ [x]) := by simp [hds]
@[simp] theorem hds_snocT2 (l : List Hd) (a : List Et) (b : List Et) (c : List Bt) (d : Int) : hds true l ++ [V.agg [.lst true 2 (ets true a),.lst true 2 (ets true b),.lst true 3 (bts true c),.int .i64 d]] = hds true (l ++ [⟨a,b,c,d⟩]) := by simp [hds,Hd.v]
@[simp] theorem hds_setT2 (l : List Hd) (j : Nat) (a : List Et) (b : List Et) (c : List Bt) (d : Int) : (hds true l).set j (V.agg [.lst true 2 (ets true a),.lst true 2 (ets true b),.lst true 3 (bts true c),.int .i64 d]) = hds true (l.set j ⟨a,b,c,d⟩) := by simp [hds,Hd.v,List.map_set]
theorem hds_zero (m : Nat) : List.replicate m (V.agg [.lst true 2 [],.lst true 2 [],.lst true 3 [],.int .i64 0]) = hds true (List.replicate m ⟨[],[],[],0⟩) := by simp [hds,Hd.v]
@[simp] theorem hds_snocF2 (l : List Hd) (a : List Et) (b : List Et) (c : List Bt) (d : Int) : hds false l ++ [V.agg [.lst false 0 (ets false a),.lst false 0 (ets false b),.lst false 0 (bts false c),.int .i64 d]] = hds false (l ++ [⟨a,b,c,d⟩]) := by simp [hds,Hd.v]
@[simp] theorem hds_setF2 (l : List Hd) (j : Nat) (a : List Et) (b : List Et) (c : List Bt) (d : Int) : (hds false l).set j (V.agg [.lst false 0 (ets false a),.lst false 0 (ets false b),.lst false 0 (bts false c),.int .i64 d]) = hds false (l.set j ⟨a,b,c,d⟩) := by simp [hds,Hd.v,List.map_set]
@[simp] theorem hds_set (t : Bool) (l : List Hd) (i : Nat) (x : Hd) : (hds t l).set i (x.v t) = hds t (l.set i x) := by simp [hds,List.map_set]
theorem hds_get {t : Bool} {l : List Hd} {i : Nat} {x : Hd} (h : l[i]? = some x) : (hds t l)[i]? = some (x.v t) := by simp [hds,h]
theorem hds_at {t : Bool} {l : List Hd} {i : Nat} (h : i < l.length) : (hds t l)[(i : Int).toNat]? = some (l[i].v t) := hds_get (by simp [h])
theorem hds_cut {t : Bool} {l : List Hd} {i : Nat} (h : i < l.length) : ∃ x,l[i]? = some x ∧ l.drop i = x :: l.drop (i + 1) ∧ (hds t l)[(i : Int).toNat]? = some (x.v t) :=
  ⟨l[i],by simp [h],List.drop_eq_getElem_cons h,hds_at h⟩
@[simp] theorem hds_take (t : Bool) (n : Nat) (l : List Hd) : (hds t l).take n = hds t (l.take n) := by simp [hds,List.map_take]
@[simp] theorem hds_drop (t : Bool) (n : Nat) (l : List Hd) : (hds t l).drop n = hds t (l.drop n) := by simp [hds,List.map_drop]
@[simp] theorem Hd.cells_v (t : Bool) (x : Hd) : (x.v t).cells = 4 := rfl
@[simp] theorem Hd.mention (t : Bool) (x : Hd) : V.mention (x.v t) = [] := by simp [Hd.v,V.mention,V.mentionL,lst_mention]
@[simp] theorem Hd.share (t : Bool) (x : Hd) : (x.v t).share = x.v false := by simp [Hd.v,V.share,V.shareL,lst_share,ets_shareL,ets_shareL,bts_shareL]
@[simp] theorem hds_shareL (t : Bool) (l : List Hd) : V.shareL (hds t l) = hds false l := by
  induction l with
  | nil => rfl
  | cons x l ih => simp [V.shareL,ih]
@[simp] theorem Hd.snap (t : Bool) (x : Hd) (q : St) : V.snap q (x.v t) = some (x.v false) := by simp [Hd.v,V.snap,V.snapL,mp,ets_shareL,ets_shareL,bts_shareL]
@[simp] theorem Hd.snapA (t : Bool) (x : Hd) (q : St) : V.snapA q (x.v t) = some (x.v false) := Hd.snap t x q
@[simp] theorem Hd.snapP (t : Bool) (x : Hd) (q : St) : V.snapP q (x.v t) = some (x.v false) := Hd.snap t x q
@[simp] theorem Hd.accM (t : Bool) (x : Hd) : V.accM (x.v t) = [] := by simp [Hd.v,V.accM,V.accML]
@[simp] theorem Hd.accF (t : Bool) (x : Hd) : V.accF (x.v t) = [] := by simp [Hd.v,V.accF,V.accFL]
@[simp] theorem Hd.ren (t : Bool) (x : Hd) (ρ : Nat → Option Nat) (vr : Nat → Nat) : V.ren ρ vr (x.v t) = x.v t := by simp [Hd.v,V.ren,V.renL]
@[simp] theorem Hd.bA (i : Nat) (t : Bool) (x : Hd) (r : List V) : bindArgs i (x.v t :: r) = ((i,x.v t) :: (bindArgs (i + 1) r).1,(bindArgs (i + 1) r).2) := rfl
@[simp] theorem Hd.lodF (x : Hd) (o i ver : Nat) (fs : List Nat) : V.lod o i ver fs (x.v false) = x.v false := by simp [Hd.v,V.lod,V.lodL]
@[simp] theorem Hd.fzF (x : Hd) (s : St) : V.fz (x.v false) s = some (x.v false,s) := by simp [Hd.v,V.fz,V.fzL,mp]
@[simp] theorem Hd.fzI (t : Bool) (x : Hd) (s : St) : V.fzI (x.v t) s = some (x.v t,s) := by cases t <;> simp [Hd.v,V.fz,V.fzI,V.fzIL,mp]
@[simp] theorem Hd.scal (t : Bool) (x : Hd) : V.scal (x.v t) = false := by simp [Hd.v,V.scal,V.scalL]
@[simp] theorem Hd.isTup (t : Bool) (x : Hd) : (x.v t).isTup = false := rfl
@[simp] theorem Hd.tidyT (x : Hd) : V.tidy (x.v true) = true := by simp [Hd.v,V.tidy,V.tidyL,ets_tidyT,ets_tidyT,bts_tidyT]
@[simp] theorem hds_tidyT (l : List Hd) : V.tidyL (hds true l) = true := by
  induction l with
  | nil => rfl
  | cons x l ih => simp [V.tidyL,ih]
@[simp] theorem Hd.thawF (x : Hd) (id : Nat) : V.thaw id (x.v false) = (x.v false,[],id) := by simp [Hd.v,V.thaw,V.thawL]
@[simp] theorem Hd.thawT (x : Hd) (id : Nat) : V.thaw id (x.v true) = (.agg [.ref (id) 0 x.oldA.length,.ref (id + 1) 0 x.oldB.length,.ref (id + 1 + 1) 0 x.waits.length,.int .i64 x.told],[(id,⟨false,false,2,ets true x.oldA,0⟩),(id + 1,⟨false,false,2,ets true x.oldB,0⟩),(id + 1 + 1,⟨false,false,3,bts true x.waits,0⟩)],id + 1 + 1 + 1) := by simp [Hd.v,V.thaw,V.thawL]
structure Rl where
  node : Int
  ep : Int
  set : List Et
  deriving DecidableEq
theorem Rl.eq_iff {d g : Rl} : d = g ↔ d.node = g.node ∧ d.ep = g.ep ∧ d.set = g.set := by
  cases d;cases g;simp
def Rl.v (t : Bool) (x : Rl) : V := .agg [.int .i64 x.node,.int .i64 x.ep,.lst t (lz t 2) (ets t x.set)]
def rls (t : Bool) (l : List Rl) : List V := l.map (Rl.v t)
@[simp] theorem rls_len (t : Bool) (l : List Rl) : (rls t l).length = l.length := by simp [rls]
@[simp] theorem rls_nil (t : Bool) : rls t [] = [] := rfl
@[simp] theorem rls_cons (t : Bool) (x : Rl) (l : List Rl) : rls t (x :: l) = x.v t :: rls t l := rfl
@[simp] theorem rls_join (t : Bool) (l m : List Rl) : rls t l ++ rls t m = rls t (l ++ m) := by simp [rls]
@[simp] theorem rls_snoc (t : Bool) (l : List Rl) (x : Rl) : rls t l ++ [x.v t] = rls t (l ++ [x]) := by simp [rls]
@[simp] theorem rls_snocT2 (l : List Rl) (a : Int) (b : Int) (c : List Et) : rls true l ++ [V.agg [.int .i64 a,.int .i64 b,.lst true 2 (ets true c)]] = rls true (l ++ [⟨a,b,c⟩]) := by simp [rls,Rl.v]
@[simp] theorem rls_setT2 (l : List Rl) (j : Nat) (a : Int) (b : Int) (c : List Et) : (rls true l).set j (V.agg [.int .i64 a,.int .i64 b,.lst true 2 (ets true c)]) = rls true (l.set j ⟨a,b,c⟩) := by simp [rls,Rl.v,List.map_set]
@[simp] theorem rls_snocF2 (l : List Rl) (a : Int) (b : Int) (c : List Et) : rls false l ++ [V.agg [.int .i64 a,.int .i64 b,.lst false 0 (ets false c)]] = rls false (l ++ [⟨a,b,c⟩]) := by simp [rls,Rl.v]
@[simp] theorem rls_setF2 (l : List Rl) (j : Nat) (a : Int) (b : Int) (c : List Et) : (rls false l).set j (V.agg [.int .i64 a,.int .i64 b,.lst false 0 (ets false c)]) = rls false (l.set j ⟨a,b,c⟩) := by simp [rls,Rl.v,List.map_set]
@[simp] theorem rls_set (t : Bool) (l : List Rl) (i : Nat) (x : Rl) : (rls t l).set i (x.v t) = rls t (l.set i x) := by simp [rls,List.map_set]
theorem rls_get {t : Bool} {l : List Rl} {i : Nat} {x : Rl} (h : l[i]? = some x) : (rls t l)[i]? = some (x.v t) := by simp [rls,h]
theorem rls_at {t : Bool} {l : List Rl} {i : Nat} (h : i < l.length) : (rls t l)[(i : Int).toNat]? = some (l[i].v t) := rls_get (by simp [h])
theorem rls_cut {t : Bool} {l : List Rl} {i : Nat} (h : i < l.length) : ∃ x,l[i]? = some x ∧ l.drop i = x :: l.drop (i + 1) ∧ (rls t l)[(i : Int).toNat]? = some (x.v t) :=
  ⟨l[i],by simp [h],List.drop_eq_getElem_cons h,rls_at h⟩
@[simp] theorem rls_take (t : Bool) (n : Nat) (l : List Rl) : (rls t l).take n = rls t (l.take n) := by simp [rls,List.map_take]
@[simp] theorem rls_drop (t : Bool) (n : Nat) (l : List Rl) : (rls t l).drop n = rls t (l.drop n) := by simp [rls,List.map_drop]
@[simp] theorem Rl.cells_v (t : Bool) (x : Rl) : (x.v t).cells = 3 := rfl
@[simp] theorem Rl.mention (t : Bool) (x : Rl) : V.mention (x.v t) = [] := by simp [Rl.v,V.mention,V.mentionL,lst_mention]
@[simp] theorem Rl.share (t : Bool) (x : Rl) : (x.v t).share = x.v false := by simp [Rl.v,V.share,V.shareL,lst_share,ets_shareL]
@[simp] theorem rls_shareL (t : Bool) (l : List Rl) : V.shareL (rls t l) = rls false l := by
  induction l with
  | nil => rfl
  | cons x l ih => simp [V.shareL,ih]
@[simp] theorem Rl.snap (t : Bool) (x : Rl) (q : St) : V.snap q (x.v t) = some (x.v false) := by simp [Rl.v,V.snap,V.snapL,mp,ets_shareL]
@[simp] theorem Rl.snapA (t : Bool) (x : Rl) (q : St) : V.snapA q (x.v t) = some (x.v false) := Rl.snap t x q
@[simp] theorem Rl.snapP (t : Bool) (x : Rl) (q : St) : V.snapP q (x.v t) = some (x.v false) := Rl.snap t x q
@[simp] theorem Rl.accM (t : Bool) (x : Rl) : V.accM (x.v t) = [] := by simp [Rl.v,V.accM,V.accML]
@[simp] theorem Rl.accF (t : Bool) (x : Rl) : V.accF (x.v t) = [] := by simp [Rl.v,V.accF,V.accFL]
@[simp] theorem Rl.ren (t : Bool) (x : Rl) (ρ : Nat → Option Nat) (vr : Nat → Nat) : V.ren ρ vr (x.v t) = x.v t := by simp [Rl.v,V.ren,V.renL]
@[simp] theorem Rl.bA (i : Nat) (t : Bool) (x : Rl) (r : List V) : bindArgs i (x.v t :: r) = ((i,x.v t) :: (bindArgs (i + 1) r).1,(bindArgs (i + 1) r).2) := rfl
@[simp] theorem Rl.lodF (x : Rl) (o i ver : Nat) (fs : List Nat) : V.lod o i ver fs (x.v false) = x.v false := by simp [Rl.v,V.lod,V.lodL]
@[simp] theorem Rl.fzF (x : Rl) (s : St) : V.fz (x.v false) s = some (x.v false,s) := by simp [Rl.v,V.fz,V.fzL,mp]
@[simp] theorem Rl.fzI (t : Bool) (x : Rl) (s : St) : V.fzI (x.v t) s = some (x.v t,s) := by cases t <;> simp [Rl.v,V.fz,V.fzI,V.fzIL,mp]
@[simp] theorem Rl.scal (t : Bool) (x : Rl) : V.scal (x.v t) = false := by simp [Rl.v,V.scal,V.scalL]
@[simp] theorem Rl.isTup (t : Bool) (x : Rl) : (x.v t).isTup = false := rfl
@[simp] theorem Rl.tidyT (x : Rl) : V.tidy (x.v true) = true := by simp [Rl.v,V.tidy,V.tidyL,ets_tidyT]
@[simp] theorem rls_tidyT (l : List Rl) : V.tidyL (rls true l) = true := by
  induction l with
  | nil => rfl
  | cons x l ih => simp [V.tidyL,ih]
@[simp] theorem Rl.thawF (x : Rl) (id : Nat) : V.thaw id (x.v false) = (x.v false,[],id) := by simp [Rl.v,V.thaw,V.thawL]
@[simp] theorem Rl.thawT (x : Rl) (id : Nat) : V.thaw id (x.v true) = (.agg [.int .i64 x.node,.int .i64 x.ep,.ref (id) 0 x.set.length],[(id,⟨false,false,2,ets true x.set,0⟩)],id + 1) := by simp [Rl.v,V.thaw,V.thawL]
structure Wk where
  inbox : List Fr
  counts : List Ct
  nodes : List Hd
  ep : Int
  top : Int
  outs : List Rl
  bad : Bool
  deriving DecidableEq
theorem Wk.eq_iff {d g : Wk} : d = g ↔ d.inbox = g.inbox ∧ d.counts = g.counts ∧ d.nodes = g.nodes ∧ d.ep = g.ep ∧ d.top = g.top ∧ d.outs = g.outs ∧ d.bad = g.bad := by
  cases d;cases g;simp
def Wk.v (t : Bool) (x : Wk) : V := .agg [.lst t (lz t 6) (frs t x.inbox),.lst t (lz t 3) (cts x.counts),.lst t (lz t 4) (hds t x.nodes),.int .i64 x.ep,.int .i64 x.top,.lst t (lz t 3) (rls t x.outs),.bool x.bad]
def wks (t : Bool) (l : List Wk) : List V := l.map (Wk.v t)
@[simp] theorem wks_len (t : Bool) (l : List Wk) : (wks t l).length = l.length := by simp [wks]
@[simp] theorem wks_nil (t : Bool) : wks t [] = [] := rfl
@[simp] theorem wks_cons (t : Bool) (x : Wk) (l : List Wk) : wks t (x :: l) = x.v t :: wks t l := rfl
@[simp] theorem wks_join (t : Bool) (l m : List Wk) : wks t l ++ wks t m = wks t (l ++ m) := by simp [wks]
@[simp] theorem wks_snoc (t : Bool) (l : List Wk) (x : Wk) : wks t l ++ [x.v t] = wks t (l ++ [x]) := by simp [wks]
@[simp] theorem wks_snocT2 (l : List Wk) (a : List Fr) (b : List Ct) (c : List Hd) (d : Int) (e : Int) (f : List Rl) (g : Bool) : wks true l ++ [V.agg [.lst true 6 (frs true a),.lst true 3 (cts b),.lst true 4 (hds true c),.int .i64 d,.int .i64 e,.lst true 3 (rls true f),.bool g]] = wks true (l ++ [⟨a,b,c,d,e,f,g⟩]) := by simp [wks,Wk.v]
@[simp] theorem wks_setT2 (l : List Wk) (j : Nat) (a : List Fr) (b : List Ct) (c : List Hd) (d : Int) (e : Int) (f : List Rl) (g : Bool) : (wks true l).set j (V.agg [.lst true 6 (frs true a),.lst true 3 (cts b),.lst true 4 (hds true c),.int .i64 d,.int .i64 e,.lst true 3 (rls true f),.bool g]) = wks true (l.set j ⟨a,b,c,d,e,f,g⟩) := by simp [wks,Wk.v,List.map_set]
@[simp] theorem wks_snocF2 (l : List Wk) (a : List Fr) (b : List Ct) (c : List Hd) (d : Int) (e : Int) (f : List Rl) (g : Bool) : wks false l ++ [V.agg [.lst false 0 (frs false a),.lst false 0 (cts b),.lst false 0 (hds false c),.int .i64 d,.int .i64 e,.lst false 0 (rls false f),.bool g]] = wks false (l ++ [⟨a,b,c,d,e,f,g⟩]) := by simp [wks,Wk.v]
@[simp] theorem wks_setF2 (l : List Wk) (j : Nat) (a : List Fr) (b : List Ct) (c : List Hd) (d : Int) (e : Int) (f : List Rl) (g : Bool) : (wks false l).set j (V.agg [.lst false 0 (frs false a),.lst false 0 (cts b),.lst false 0 (hds false c),.int .i64 d,.int .i64 e,.lst false 0 (rls false f),.bool g]) = wks false (l.set j ⟨a,b,c,d,e,f,g⟩) := by simp [wks,Wk.v,List.map_set]
@[simp] theorem wks_set (t : Bool) (l : List Wk) (i : Nat) (x : Wk) : (wks t l).set i (x.v t) = wks t (l.set i x) := by simp [wks,List.map_set]
theorem wks_get {t : Bool} {l : List Wk} {i : Nat} {x : Wk} (h : l[i]? = some x) : (wks t l)[i]? = some (x.v t) := by simp [wks,h]
theorem wks_at {t : Bool} {l : List Wk} {i : Nat} (h : i < l.length) : (wks t l)[(i : Int).toNat]? = some (l[i].v t) := wks_get (by simp [h])
theorem wks_cut {t : Bool} {l : List Wk} {i : Nat} (h : i < l.length) : ∃ x,l[i]? = some x ∧ l.drop i = x :: l.drop (i + 1) ∧ (wks t l)[(i : Int).toNat]? = some (x.v t) :=
  ⟨l[i],by simp [h],List.drop_eq_getElem_cons h,wks_at h⟩
@[simp] theorem wks_take (t : Bool) (n : Nat) (l : List Wk) : (wks t l).take n = wks t (l.take n) := by simp [wks,List.map_take]
@[simp] theorem wks_drop (t : Bool) (n : Nat) (l : List Wk) : (wks t l).drop n = wks t (l.drop n) := by simp [wks,List.map_drop]
@[simp] theorem Wk.cells_v (t : Bool) (x : Wk) : (x.v t).cells = 7 := rfl
@[simp] theorem Wk.mention (t : Bool) (x : Wk) : V.mention (x.v t) = [] := by simp [Wk.v,V.mention,V.mentionL,lst_mention]
@[simp] theorem Wk.share (t : Bool) (x : Wk) : (x.v t).share = x.v false := by simp [Wk.v,V.share,V.shareL,lst_share,frs_shareL,cts_shareL,hds_shareL,rls_shareL]
@[simp] theorem wks_shareL (t : Bool) (l : List Wk) : V.shareL (wks t l) = wks false l := by
  induction l with
  | nil => rfl
  | cons x l ih => simp [V.shareL,ih]
@[simp] theorem Wk.snap (t : Bool) (x : Wk) (q : St) : V.snap q (x.v t) = some (x.v false) := by simp [Wk.v,V.snap,V.snapL,mp,frs_shareL,cts_shareL,hds_shareL,rls_shareL]
@[simp] theorem Wk.snapA (t : Bool) (x : Wk) (q : St) : V.snapA q (x.v t) = some (x.v false) := Wk.snap t x q
@[simp] theorem Wk.snapP (t : Bool) (x : Wk) (q : St) : V.snapP q (x.v t) = some (x.v false) := Wk.snap t x q
@[simp] theorem Wk.accM (t : Bool) (x : Wk) : V.accM (x.v t) = [] := by simp [Wk.v,V.accM,V.accML]
@[simp] theorem Wk.accF (t : Bool) (x : Wk) : V.accF (x.v t) = [] := by simp [Wk.v,V.accF,V.accFL]
@[simp] theorem Wk.ren (t : Bool) (x : Wk) (ρ : Nat → Option Nat) (vr : Nat → Nat) : V.ren ρ vr (x.v t) = x.v t := by simp [Wk.v,V.ren,V.renL]
@[simp] theorem Wk.bA (i : Nat) (t : Bool) (x : Wk) (r : List V) : bindArgs i (x.v t :: r) = ((i,x.v t) :: (bindArgs (i + 1) r).1,(bindArgs (i + 1) r).2) := rfl
@[simp] theorem Wk.lodF (x : Wk) (o i ver : Nat) (fs : List Nat) : V.lod o i ver fs (x.v false) = x.v false := by simp [Wk.v,V.lod,V.lodL]
@[simp] theorem Wk.fzF (x : Wk) (s : St) : V.fz (x.v false) s = some (x.v false,s) := by simp [Wk.v,V.fz,V.fzL,mp]
@[simp] theorem Wk.fzI (t : Bool) (x : Wk) (s : St) : V.fzI (x.v t) s = some (x.v t,s) := by cases t <;> simp [Wk.v,V.fz,V.fzI,V.fzIL,mp]
@[simp] theorem Wk.scal (t : Bool) (x : Wk) : V.scal (x.v t) = false := by simp [Wk.v,V.scal,V.scalL]
@[simp] theorem Wk.isTup (t : Bool) (x : Wk) : (x.v t).isTup = false := rfl
@[simp] theorem Wk.tidyT (x : Wk) : V.tidy (x.v true) = true := by simp [Wk.v,V.tidy,V.tidyL,frs_tidyT,cts_tidyT,hds_tidyT,rls_tidyT]
@[simp] theorem wks_tidyT (l : List Wk) : V.tidyL (wks true l) = true := by
  induction l with
  | nil => rfl
  | cons x l ih => simp [V.tidyL,ih]
@[simp] theorem Wk.thawF (x : Wk) (id : Nat) : V.thaw id (x.v false) = (x.v false,[],id) := by simp [Wk.v,V.thaw,V.thawL]
@[simp] theorem Wk.thawT (x : Wk) (id : Nat) : V.thaw id (x.v true) = (.agg [.ref (id) 0 x.inbox.length,.ref (id + 1) 0 x.counts.length,.ref (id + 1 + 1) 0 x.nodes.length,.int .i64 x.ep,.int .i64 x.top,.ref (id + 1 + 1 + 1) 0 x.outs.length,.bool x.bad],[(id,⟨false,false,6,frs true x.inbox,0⟩),(id + 1,⟨false,false,3,cts x.counts,0⟩),(id + 1 + 1,⟨false,false,4,hds true x.nodes,0⟩),(id + 1 + 1 + 1,⟨false,false,3,rls true x.outs,0⟩)],id + 1 + 1 + 1 + 1) := by simp [Wk.v,V.thaw,V.thawL]
end Go.Proofs.Ytgkbmiaimjpbfaa.Ev
namespace Go.Proofs.Ytgkbmiaimjpbfaa.Ev
open Go
set_option maxRecDepth 100000
set_option linter.unusedSimpArgs false
set_option linter.unusedVariables false
set_option maxHeartbeats 2000000
def wS {α : Type} (f : α → Nat) (l : List α) : Nat := (l.map f).sum
@[simp] theorem wS_nil {α : Type} (f : α → Nat) : wS f [] = 0 := rfl
@[simp] theorem wS_cons {α : Type} (f : α → Nat) (x : α) (l : List α) : wS f (x :: l) = f x + wS f l := by simp [wS]
theorem wS_mem {α : Type} {f : α → Nat} : ∀ {l : List α} {x : α},x ∈ l → f x ≤ wS f l
  | y :: l,x,h => by
    rcases List.mem_cons.1 h with rfl | h
    · simp
    · have := wS_mem (f:=f) h;simp;omega
theorem eq_Ct (x y : Ct) : oc.call 134 [x.v,y.v] = some (.bool (decide (x = y)),[]) := by
 refine fun_s rfl cd134 rfl rfl rfl (by simp;rfl) (by simp;rfl) ?_
 refine wa_ (wc_region (w_ (bx (h:=w_ (bx (h:=w_ (a_ (h:=wo_nil (e_ (h:=aft_normal (wa_ (wa_ (wc_region (w_ (f_ (h:=w_ (l_ (h:=?_))))))))))))))))))
 refine w_ (f_ (h:=w_ (l_ (h:=w_ (bE (h:=wo_nil (e_ (h:=aft_normal (?_)))))))))
 refine c_ (h1:=?_) (h2:=?_)
 rotate_right 1
 focus
  intro c1
  refine wc_skip (?_)
 rotate_right 1
 focus
  intro c1
  refine wa_ (wc_region (w_ (a_ (h:=wo_nil (e_ (h:=aft_normal (wc_ret (?_))))))))
 all_goals first
 | refine aft_ret ?_
 | (
  refine aft_normal ?_
  refine wa_ (wa_ (wc_region (w_ (f_ (h:=w_ (l_ (h:=w_ (f_ (h:=w_ (l_ (h:=w_ (bE (h:=wo_nil (e_ (h:=aft_normal (?_))))))))))))))))
  refine c_ (h1:=?_) (h2:=?_)
  rotate_right 1
  focus
   intro c2
   refine wc_skip (?_)
  rotate_right 1
  focus
   intro c2
   refine wa_ (wc_region (w_ (a_ (h:=wo_nil (e_ (h:=aft_normal (wc_ret (?_))))))))
  all_goals first
  | refine aft_ret ?_
  | (
   refine aft_normal ?_
   refine wa_ (wa_ (wc_region (w_ (f_ (h:=w_ (l_ (h:=w_ (f_ (h:=w_ (l_ (h:=w_ (bE (h:=wo_nil (e_ (h:=aft_normal (?_))))))))))))))))
   refine c_ (h1:=?_) (h2:=?_)
   rotate_right 1
   focus
    intro c3
    refine wc_skip (?_)
   rotate_right 1
   focus
    intro c3
    refine wa_ (wc_region (w_ (a_ (h:=wo_nil (e_ (h:=aft_normal (wc_ret (?_))))))))
   all_goals first
   | refine aft_ret ?_
   | (
    refine aft_normal ?_
    refine wa_ (wc_region (w_ (a_ (h:=wo_nil (e_ (h:=aft_normal (wc_ret (?_))))))))
    )
   )
  )
 all_goals (refine fin_ (hr:=(res_tmp rfl res_nil)) (h:=?_);(focus (first | (simp_all [Ct.eq_iff];done) | (simp [Ct.eq_iff] at *;grind))))
theorem l_eq_Cts (l m : List Ct) (h : l.length < 2000000) (h2 : m.length < 2000000) (hlm : l.length = m.length) : ∀ i : Nat,(i ≤ l.length) → ∀ s,normE 2 (some [0,1,5]) s = ⟨[(0,.lst false 0 (cts l)),(1,.lst false 0 (cts m)),(5,.int .i64 i)],[],2⟩ →
 oc.loop 59 4 s = some (if l.drop i = m.drop i then (.exit 0,⟨[],[],2⟩) else (.ret,⟨[(4,.bool false)],[],2⟩)) := by
 refine loop_ind (σ:=Nat) (fun i => l.length - i) _ (fun i => ⟨[(0,.lst false 0 (cts l)),(1,.lst false 0 (cts m)),(5,.int .i64 i)],[],2⟩) _ ?_
 intro i hi ih s hs
 refine loop_s cd59 rfl rfl hs ?_
 refine wa_ (wa_ (wc_region (w_ (m_ (h:=w_ (m_ (h:=w_ (le (h:=w_ (b_ (h:=wo_nil (e_ (h:=aft_normal (?_))))))))))))))
 refine c_ (h1:=?_) (h2:=?_)
 rotate_right 1
 focus
  intro c1
  simp at c1;have : i = l.length := (by omega);subst this
  refine wc_exit (?_)
 rotate_right 1
 focus
  intro c1
  simp at c1;have hw := wrap_succ (i:=i) (by omega);obtain ⟨x,hx,d1,g1⟩ := cts_cut c1;obtain ⟨y,hy,d2,g2⟩ := cts_cut (l:=m) (i:=i) (by omega)
  refine wc_skip (?_)
 all_goals first
 | refine aft_exit ?_
 | (
  refine aft_normal ?_
  refine wa_ (wc_block (wa_ (wc_draw (y_ (m_ (h:=ax_ (h:=y_ (m_ (h:=ax_ (h:=y_ (x_ (h:=ax_ (h:=y_ (l_ (h:=ax_ (h:=y_ (m_ (h:=ax_ (h:=y_ (m_ (h:=ax_ (h:=y_ (x_ (h:=ax_ (h:=y_ (l_ (h:=ax_ (h:=?_))))))))))))))))))))))))))))
  refine y_ (ca (hc:=eq_Ct x y) (h:=ax_ (h:=y_ (u_ (h:=ax_ (h:=wo_nil (ed (h:=aft_normal (?_)))))))))
  refine c_ (h1:=?_) (h2:=?_)
  rotate_right 1
  focus
   intro c2
   refine wc_skip (?_)
  rotate_right 1
  focus
   intro c2
   refine wa_ (wc_region (w_ (a_ (h:=wo_nil (e_ (h:=aft_normal (wc_ret (?_))))))))
  all_goals first | refine blk_normal ?_ | refine blk_ret ?_
  all_goals first
  | refine aft_ret ?_
  | (
   refine aft_normal ?_
   refine wc_region (w_ (m_ (h:=w_ (b_ (h:=w_ (a_ (h:=wo_nil (e_ (h:=?_)))))))))
   )
  )
 all_goals first
 | (refine (ih (i + 1) (by omega) ?_ _ ?_).trans ?_;(focus (first | omega | (simp;done) | (simp;omega)));(focus (simp [normE,hw];done));(focus (simp at c2;rw [d1,d2];simp [c2])))
 | (apply end_leaf (ex:=Ext.ret) 2 (some [4]);(focus (simp [normE];rfl));(focus (simp at c2;rw [d1,d2];simp [c2])))
 | (apply end_leaf (ex:=(Ext.exit 0)) 2 (some [4]);(focus (simp [normE];rfl));(focus (rw [if_pos (by simp [hlm])])))
theorem eq_Cts (l m : List Ct) (h : l.length < 2000000) (h2 : m.length < 2000000) : oc.call 59 [.lst false 0 (cts l),.lst false 0 (cts m)] = some (.bool (decide (l = m)),[]) := by
 refine fun_s rfl cd59 rfl rfl rfl (by simp;rfl) (by simp;rfl) ?_
 refine wa_ (wc_region (w_ (a_ (h:=wo_nil (e_ (h:=aft_normal (wa_ (wa_ (wc_region (w_ (m_ (h:=w_ (le (h:=w_ (m_ (h:=w_ (le (h:=?_))))))))))))))))))
 refine w_ (bE (h:=wo_nil (e_ (h:=aft_normal (?_)))))
 refine c_ (h1:=?_) (h2:=?_)
 rotate_right 1
 focus
  intro c1
  simp at c1
  refine wc_skip (?_)
 rotate_right 1
 focus
  intro c1
  simp at c1;have hne : l ≠ m := (by rintro rfl;exact c1 rfl)
  refine wa_ (wc_region (w_ (a_ (h:=wo_nil (e_ (h:=aft_normal (wc_ret (?_))))))))
 all_goals first
 | refine aft_ret ?_
 | (
  refine aft_normal ?_
  refine wa_ (wa_ (wc_region (w_ (a_ (h:=wo_nil (e_ (h:=aft_normal (wc_block (?_)))))))))
  refine wc_loopI (l_eq_Cts l m h h2 (by omega) 0 (by omega) _ (by simp [normE])) ?_ ?_
  rotate_right 1
  focus
   intro c2
   skip
  rotate_right 1
  focus
   intro c2
   skip
  all_goals first | refine blk_ret ?_ | refine blk_exit ?_
  all_goals first
  | refine aft_ret ?_
  | (
   refine aft_normal ?_
   refine wa_ (wc_region (w_ (a_ (h:=wo_nil (e_ (h:=aft_normal (wc_ret (?_))))))))
   )
  )
 all_goals (refine fin_ (hr:=(res_tmp rfl res_nil)) (h:=?_);(focus (first | (simp_all;done) | (simp_all <;> omega) | (simp_all <;> split <;> simp_all <;> omega))))
def w_Et (x : Et) : Nat := x.row.length
def w_Ets (l : List Et) : Nat := l.length + wS w_Et l
theorem w_Ets_mem {l : List Et} {x : Et} (h : x ∈ l) : l.length + w_Et x ≤ w_Ets l := by
  have := wS_mem (f:=w_Et) h;unfold w_Ets;omega
theorem w_Ets_len {l : List Et} : l.length ≤ w_Ets l := by unfold w_Ets;omega
theorem eq_Et (x y : Et) (h : w_Et x < 2000000) (h2 : w_Et y < 2000000) : oc.call 81 [x.v false,y.v false] = some (.bool (decide (x = y)),[]) := by
 refine fun_s rfl cd81 rfl rfl rfl (by simp;rfl) (by simp;rfl) ?_
 unfold w_Et at h h2
 refine wa_ (wc_region (w_ (bx (h:=w_ (bx (h:=w_ (a_ (h:=wo_nil (e_ (h:=aft_normal (wa_ (wa_ (wc_region (w_ (f_ (h:=w_ (l_ (h:=?_))))))))))))))))))
 refine w_ (f_ (h:=w_ (l_ (h:=w_ (ca (hc:=e_eqI x.row y.row 0 0 (by omega) (by omega)) (h:=w_ (u_ (h:=wo_nil (e_ (h:=aft_normal (?_)))))))))))
 refine c_ (h1:=?_) (h2:=?_)
 rotate_right 1
 focus
  intro c1
  refine wc_skip (?_)
 rotate_right 1
 focus
  intro c1
  refine wa_ (wc_region (w_ (a_ (h:=wo_nil (e_ (h:=aft_normal (wc_ret (?_))))))))
 all_goals first
 | refine aft_ret ?_
 | (
  refine aft_normal ?_
  refine wa_ (wa_ (wc_region (w_ (f_ (h:=w_ (l_ (h:=w_ (f_ (h:=w_ (l_ (h:=w_ (bE (h:=wo_nil (e_ (h:=aft_normal (?_))))))))))))))))
  refine c_ (h1:=?_) (h2:=?_)
  rotate_right 1
  focus
   intro c2
   refine wc_skip (?_)
  rotate_right 1
  focus
   intro c2
   refine wa_ (wc_region (w_ (a_ (h:=wo_nil (e_ (h:=aft_normal (wc_ret (?_))))))))
  all_goals first
  | refine aft_ret ?_
  | (
   refine aft_normal ?_
   refine wa_ (wc_region (w_ (a_ (h:=wo_nil (e_ (h:=aft_normal (wc_ret (?_))))))))
   )
  )
 all_goals (refine fin_ (hr:=(res_tmp rfl res_nil)) (h:=?_);(focus (first | (simp_all [Et.eq_iff];done) | (simp [Et.eq_iff] at *;grind))))
theorem l_eq_Ets (l m : List Et) (h : w_Ets l < 2000000) (h2 : w_Ets m < 2000000) (hlm : l.length = m.length) : ∀ i : Nat,(i ≤ l.length) → ∀ s,normE 2 (some [0,1,5]) s = ⟨[(0,.lst false 0 (ets false l)),(1,.lst false 0 (ets false m)),(5,.int .i64 i)],[],2⟩ →
 oc.loop 17 4 s = some (if l.drop i = m.drop i then (.exit 0,⟨[],[],2⟩) else (.ret,⟨[(4,.bool false)],[],2⟩)) := by
 refine loop_ind (σ:=Nat) (fun i => l.length - i) _ (fun i => ⟨[(0,.lst false 0 (ets false l)),(1,.lst false 0 (ets false m)),(5,.int .i64 i)],[],2⟩) _ ?_
 intro i hi ih s hs
 refine loop_s cd17 rfl rfl hs ?_
 have hl1 := w_Ets_len (l:=l)
 refine wa_ (wa_ (wc_region (w_ (m_ (h:=w_ (m_ (h:=w_ (le (h:=w_ (b_ (h:=wo_nil (e_ (h:=aft_normal (?_))))))))))))))
 refine c_ (h1:=?_) (h2:=?_)
 rotate_right 1
 focus
  intro c1
  simp at c1;have : i = l.length := (by omega);subst this
  refine wc_exit (?_)
 rotate_right 1
 focus
  intro c1
  simp at c1;have hw := wrap_succ (i:=i) (by omega);obtain ⟨x,hx,d1,g1⟩ := ets_cut (t:=false) c1;obtain ⟨y,hy,d2,g2⟩ := ets_cut (t:=false) (l:=m) (i:=i) (by omega);have m1 := w_Ets_mem (List.mem_of_getElem? hx);have m2 := w_Ets_mem (List.mem_of_getElem? hy)
  refine wc_skip (?_)
 all_goals first
 | refine aft_exit ?_
 | (
  refine aft_normal ?_
  refine wa_ (wc_block (wa_ (wc_draw (y_ (m_ (h:=ax_ (h:=y_ (m_ (h:=ax_ (h:=y_ (x_ (h:=ax_ (h:=y_ (l_ (h:=ax_ (h:=y_ (m_ (h:=ax_ (h:=y_ (m_ (h:=ax_ (h:=y_ (x_ (h:=ax_ (h:=y_ (l_ (h:=ax_ (h:=?_))))))))))))))))))))))))))))
  refine y_ (ca (hc:=eq_Et x y (by omega) (by omega)) (h:=ax_ (h:=y_ (u_ (h:=ax_ (h:=wo_nil (ed (h:=aft_normal (?_)))))))))
  refine c_ (h1:=?_) (h2:=?_)
  rotate_right 1
  focus
   intro c2
   refine wc_skip (?_)
  rotate_right 1
  focus
   intro c2
   refine wa_ (wc_region (w_ (a_ (h:=wo_nil (e_ (h:=aft_normal (wc_ret (?_))))))))
  all_goals first | refine blk_normal ?_ | refine blk_ret ?_
  all_goals first
  | refine aft_ret ?_
  | (
   refine aft_normal ?_
   refine wc_region (w_ (m_ (h:=w_ (b_ (h:=w_ (a_ (h:=wo_nil (e_ (h:=?_)))))))))
   )
  )
 all_goals first
 | (refine (ih (i + 1) (by omega) ?_ _ ?_).trans ?_;(focus (first | omega | (simp;done) | (simp;omega)));(focus (simp [normE,hw];done));(focus (simp at c2;rw [d1,d2];simp [c2])))
 | (apply end_leaf (ex:=Ext.ret) 2 (some [4]);(focus (simp [normE];rfl));(focus (simp at c2;rw [d1,d2];simp [c2])))
 | (apply end_leaf (ex:=(Ext.exit 0)) 2 (some [4]);(focus (simp [normE];rfl));(focus (rw [if_pos (by simp [hlm])])))
theorem eq_Ets (l m : List Et) (h : w_Ets l < 2000000) (h2 : w_Ets m < 2000000) : oc.call 17 [.lst false 0 (ets false l),.lst false 0 (ets false m)] = some (.bool (decide (l = m)),[]) := by
 refine fun_s rfl cd17 rfl rfl rfl (by simp;rfl) (by simp;rfl) ?_
 refine wa_ (wc_region (w_ (a_ (h:=wo_nil (e_ (h:=aft_normal (wa_ (wa_ (wc_region (w_ (m_ (h:=w_ (le (h:=w_ (m_ (h:=w_ (le (h:=?_))))))))))))))))))
 refine w_ (bE (h:=wo_nil (e_ (h:=aft_normal (?_)))))
 refine c_ (h1:=?_) (h2:=?_)
 rotate_right 1
 focus
  intro c1
  simp at c1
  refine wc_skip (?_)
 rotate_right 1
 focus
  intro c1
  simp at c1;have hne : l ≠ m := (by rintro rfl;exact c1 rfl)
  refine wa_ (wc_region (w_ (a_ (h:=wo_nil (e_ (h:=aft_normal (wc_ret (?_))))))))
 all_goals first
 | refine aft_ret ?_
 | (
  refine aft_normal ?_
  refine wa_ (wa_ (wc_region (w_ (a_ (h:=wo_nil (e_ (h:=aft_normal (wc_block (?_)))))))))
  refine wc_loopI (l_eq_Ets l m h h2 (by omega) 0 (by omega) _ (by simp [normE])) ?_ ?_
  rotate_right 1
  focus
   intro c2
   skip
  rotate_right 1
  focus
   intro c2
   skip
  all_goals first | refine blk_ret ?_ | refine blk_exit ?_
  all_goals first
  | refine aft_ret ?_
  | (
   refine aft_normal ?_
   refine wa_ (wc_region (w_ (a_ (h:=wo_nil (e_ (h:=aft_normal (wc_ret (?_))))))))
   )
  )
 all_goals (refine fin_ (hr:=(res_tmp rfl res_nil)) (h:=?_);(focus (first | (simp_all;done) | (simp_all <;> omega) | (simp_all <;> split <;> simp_all <;> omega))))
def w_Fr (x : Fr) : Nat := w_Ets x.set + x.news.length
def w_Frs (l : List Fr) : Nat := l.length + wS w_Fr l
theorem w_Frs_mem {l : List Fr} {x : Fr} (h : x ∈ l) : l.length + w_Fr x ≤ w_Frs l := by
  have := wS_mem (f:=w_Fr) h;unfold w_Frs;omega
theorem w_Frs_len {l : List Fr} : l.length ≤ w_Frs l := by unfold w_Frs;omega
theorem eq_Fr (x y : Fr) (h : w_Fr x < 2000000) (h2 : w_Fr y < 2000000) : oc.call 254 [x.v false,y.v false] = some (.bool (decide (x = y)),[]) := by
 refine fun_s rfl cd254 rfl rfl rfl (by simp;rfl) (by simp;rfl) ?_
 unfold w_Fr at h h2
 refine wa_ (wc_region (w_ (bx (h:=w_ (bx (h:=w_ (a_ (h:=wo_nil (e_ (h:=aft_normal (wa_ (wa_ (wc_region (w_ (f_ (h:=w_ (l_ (h:=?_))))))))))))))))))
 refine w_ (f_ (h:=w_ (l_ (h:=w_ (bE (h:=wo_nil (e_ (h:=aft_normal (?_)))))))))
 refine c_ (h1:=?_) (h2:=?_)
 rotate_right 1
 focus
  intro c1
  refine wc_skip (?_)
 rotate_right 1
 focus
  intro c1
  refine wa_ (wc_region (w_ (a_ (h:=wo_nil (e_ (h:=aft_normal (wc_ret (?_))))))))
 all_goals first
 | refine aft_ret ?_
 | (
  refine aft_normal ?_
  refine wa_ (wa_ (wc_region (w_ (f_ (h:=w_ (l_ (h:=w_ (f_ (h:=w_ (l_ (h:=w_ (bE (h:=wo_nil (e_ (h:=aft_normal (?_))))))))))))))))
  refine c_ (h1:=?_) (h2:=?_)
  rotate_right 1
  focus
   intro c2
   refine wc_skip (?_)
  rotate_right 1
  focus
   intro c2
   refine wa_ (wc_region (w_ (a_ (h:=wo_nil (e_ (h:=aft_normal (wc_ret (?_))))))))
  all_goals first
  | refine aft_ret ?_
  | (
   refine aft_normal ?_
   refine wa_ (wa_ (wc_region (w_ (f_ (h:=w_ (l_ (h:=w_ (f_ (h:=w_ (l_ (h:=w_ (bE (h:=wo_nil (e_ (h:=aft_normal (?_))))))))))))))))
   refine c_ (h1:=?_) (h2:=?_)
   rotate_right 1
   focus
    intro c3
    refine wc_skip (?_)
   rotate_right 1
   focus
    intro c3
    refine wa_ (wc_region (w_ (a_ (h:=wo_nil (e_ (h:=aft_normal (wc_ret (?_))))))))
   all_goals first
   | refine aft_ret ?_
   | (
    refine aft_normal ?_
    refine wa_ (wa_ (wc_region (w_ (f_ (h:=w_ (l_ (h:=w_ (f_ (h:=w_ (l_ (h:=w_ (bE (h:=wo_nil (e_ (h:=aft_normal (?_))))))))))))))))
    refine c_ (h1:=?_) (h2:=?_)
    rotate_right 1
    focus
     intro c4
     refine wc_skip (?_)
    rotate_right 1
    focus
     intro c4
     refine wa_ (wc_region (w_ (a_ (h:=wo_nil (e_ (h:=aft_normal (wc_ret (?_))))))))
    all_goals first
    | refine aft_ret ?_
    | (
     refine aft_normal ?_
     refine wa_ (wa_ (wc_region (w_ (f_ (h:=w_ (l_ (h:=w_ (f_ (h:=w_ (l_ (h:=w_ (ca (hc:=eq_Ets x.set y.set (by omega) (by omega)) (h:=w_ (u_ (h:=wo_nil (e_ (h:=aft_normal (?_))))))))))))))))))
     refine c_ (h1:=?_) (h2:=?_)
     rotate_right 1
     focus
      intro c5
      refine wc_skip (?_)
     rotate_right 1
     focus
      intro c5
      refine wa_ (wc_region (w_ (a_ (h:=wo_nil (e_ (h:=aft_normal (wc_ret (?_))))))))
     all_goals first
     | refine aft_ret ?_
     | (
      refine aft_normal ?_
      refine wa_ (wa_ (wc_region (w_ (f_ (h:=w_ (l_ (h:=w_ (f_ (h:=w_ (l_ (h:=w_ (ca (hc:=eq_Cts x.news y.news (by omega) (by omega)) (h:=w_ (u_ (h:=wo_nil (e_ (h:=aft_normal (?_))))))))))))))))))
      refine c_ (h1:=?_) (h2:=?_)
      rotate_right 1
      focus
       intro c6
       refine wc_skip (?_)
      rotate_right 1
      focus
       intro c6
       refine wa_ (wc_region (w_ (a_ (h:=wo_nil (e_ (h:=aft_normal (wc_ret (?_))))))))
      all_goals first
      | refine aft_ret ?_
      | (
       refine aft_normal ?_
       refine wa_ (wc_region (w_ (a_ (h:=wo_nil (e_ (h:=aft_normal (wc_ret (?_))))))))
       )
      )
     )
    )
   )
  )
 all_goals (refine fin_ (hr:=(res_tmp rfl res_nil)) (h:=?_);(focus (first | (simp_all [Fr.eq_iff];done) | (simp [Fr.eq_iff] at *;grind))))
theorem l_eq_Frs (l m : List Fr) (h : w_Frs l < 2000000) (h2 : w_Frs m < 2000000) (hlm : l.length = m.length) : ∀ i : Nat,(i ≤ l.length) → ∀ s,normE 2 (some [0,1,5]) s = ⟨[(0,.lst false 0 (frs false l)),(1,.lst false 0 (frs false m)),(5,.int .i64 i)],[],2⟩ →
 oc.loop 237 4 s = some (if l.drop i = m.drop i then (.exit 0,⟨[],[],2⟩) else (.ret,⟨[(4,.bool false)],[],2⟩)) := by
 refine loop_ind (σ:=Nat) (fun i => l.length - i) _ (fun i => ⟨[(0,.lst false 0 (frs false l)),(1,.lst false 0 (frs false m)),(5,.int .i64 i)],[],2⟩) _ ?_
 intro i hi ih s hs
 refine loop_s cd237 rfl rfl hs ?_
 have hl1 := w_Frs_len (l:=l)
 refine wa_ (wa_ (wc_region (w_ (m_ (h:=w_ (m_ (h:=w_ (le (h:=w_ (b_ (h:=wo_nil (e_ (h:=aft_normal (?_))))))))))))))
 refine c_ (h1:=?_) (h2:=?_)
 rotate_right 1
 focus
  intro c1
  simp at c1;have : i = l.length := (by omega);subst this
  refine wc_exit (?_)
 rotate_right 1
 focus
  intro c1
  simp at c1;have hw := wrap_succ (i:=i) (by omega);obtain ⟨x,hx,d1,g1⟩ := frs_cut (t:=false) c1;obtain ⟨y,hy,d2,g2⟩ := frs_cut (t:=false) (l:=m) (i:=i) (by omega);have m1 := w_Frs_mem (List.mem_of_getElem? hx);have m2 := w_Frs_mem (List.mem_of_getElem? hy)
  refine wc_skip (?_)
 all_goals first
 | refine aft_exit ?_
 | (
  refine aft_normal ?_
  refine wa_ (wc_block (wa_ (wc_draw (y_ (m_ (h:=ax_ (h:=y_ (m_ (h:=ax_ (h:=y_ (x_ (h:=ax_ (h:=y_ (l_ (h:=ax_ (h:=y_ (m_ (h:=ax_ (h:=y_ (m_ (h:=ax_ (h:=y_ (x_ (h:=ax_ (h:=y_ (l_ (h:=ax_ (h:=?_))))))))))))))))))))))))))))
  refine y_ (ca (hc:=eq_Fr x y (by omega) (by omega)) (h:=ax_ (h:=y_ (u_ (h:=ax_ (h:=wo_nil (ed (h:=aft_normal (?_)))))))))
  refine c_ (h1:=?_) (h2:=?_)
  rotate_right 1
  focus
   intro c2
   refine wc_skip (?_)
  rotate_right 1
  focus
   intro c2
   refine wa_ (wc_region (w_ (a_ (h:=wo_nil (e_ (h:=aft_normal (wc_ret (?_))))))))
  all_goals first | refine blk_normal ?_ | refine blk_ret ?_
  all_goals first
  | refine aft_ret ?_
  | (
   refine aft_normal ?_
   refine wc_region (w_ (m_ (h:=w_ (b_ (h:=w_ (a_ (h:=wo_nil (e_ (h:=?_)))))))))
   )
  )
 all_goals first
 | (refine (ih (i + 1) (by omega) ?_ _ ?_).trans ?_;(focus (first | omega | (simp;done) | (simp;omega)));(focus (simp [normE,hw];done));(focus (simp at c2;rw [d1,d2];simp [c2])))
 | (apply end_leaf (ex:=Ext.ret) 2 (some [4]);(focus (simp [normE];rfl));(focus (simp at c2;rw [d1,d2];simp [c2])))
 | (apply end_leaf (ex:=(Ext.exit 0)) 2 (some [4]);(focus (simp [normE];rfl));(focus (rw [if_pos (by simp [hlm])])))
theorem eq_Frs (l m : List Fr) (h : w_Frs l < 2000000) (h2 : w_Frs m < 2000000) : oc.call 237 [.lst false 0 (frs false l),.lst false 0 (frs false m)] = some (.bool (decide (l = m)),[]) := by
 refine fun_s rfl cd237 rfl rfl rfl (by simp;rfl) (by simp;rfl) ?_
 refine wa_ (wc_region (w_ (a_ (h:=wo_nil (e_ (h:=aft_normal (wa_ (wa_ (wc_region (w_ (m_ (h:=w_ (le (h:=w_ (m_ (h:=w_ (le (h:=?_))))))))))))))))))
 refine w_ (bE (h:=wo_nil (e_ (h:=aft_normal (?_)))))
 refine c_ (h1:=?_) (h2:=?_)
 rotate_right 1
 focus
  intro c1
  simp at c1
  refine wc_skip (?_)
 rotate_right 1
 focus
  intro c1
  simp at c1;have hne : l ≠ m := (by rintro rfl;exact c1 rfl)
  refine wa_ (wc_region (w_ (a_ (h:=wo_nil (e_ (h:=aft_normal (wc_ret (?_))))))))
 all_goals first
 | refine aft_ret ?_
 | (
  refine aft_normal ?_
  refine wa_ (wa_ (wc_region (w_ (a_ (h:=wo_nil (e_ (h:=aft_normal (wc_block (?_)))))))))
  refine wc_loopI (l_eq_Frs l m h h2 (by omega) 0 (by omega) _ (by simp [normE])) ?_ ?_
  rotate_right 1
  focus
   intro c2
   skip
  rotate_right 1
  focus
   intro c2
   skip
  all_goals first | refine blk_ret ?_ | refine blk_exit ?_
  all_goals first
  | refine aft_ret ?_
  | (
   refine aft_normal ?_
   refine wa_ (wc_region (w_ (a_ (h:=wo_nil (e_ (h:=aft_normal (wc_ret (?_))))))))
   )
  )
 all_goals (refine fin_ (hr:=(res_tmp rfl res_nil)) (h:=?_);(focus (first | (simp_all;done) | (simp_all <;> omega) | (simp_all <;> split <;> simp_all <;> omega))))
def w_Bt (x : Bt) : Nat := w_Ets x.set
def w_Bts (l : List Bt) : Nat := l.length + wS w_Bt l
theorem w_Bts_mem {l : List Bt} {x : Bt} (h : x ∈ l) : l.length + w_Bt x ≤ w_Bts l := by
  have := wS_mem (f:=w_Bt) h;unfold w_Bts;omega
theorem w_Bts_len {l : List Bt} : l.length ≤ w_Bts l := by unfold w_Bts;omega
theorem eq_Bt (x y : Bt) (h : w_Bt x < 2000000) (h2 : w_Bt y < 2000000) : oc.call 196 [x.v false,y.v false] = some (.bool (decide (x = y)),[]) := by
 refine fun_s rfl cd196 rfl rfl rfl (by simp;rfl) (by simp;rfl) ?_
 unfold w_Bt at h h2
 refine wa_ (wc_region (w_ (bx (h:=w_ (bx (h:=w_ (a_ (h:=wo_nil (e_ (h:=aft_normal (wa_ (wa_ (wc_region (w_ (f_ (h:=w_ (l_ (h:=?_))))))))))))))))))
 refine w_ (f_ (h:=w_ (l_ (h:=w_ (bE (h:=wo_nil (e_ (h:=aft_normal (?_)))))))))
 refine c_ (h1:=?_) (h2:=?_)
 rotate_right 1
 focus
  intro c1
  refine wc_skip (?_)
 rotate_right 1
 focus
  intro c1
  refine wa_ (wc_region (w_ (a_ (h:=wo_nil (e_ (h:=aft_normal (wc_ret (?_))))))))
 all_goals first
 | refine aft_ret ?_
 | (
  refine aft_normal ?_
  refine wa_ (wa_ (wc_region (w_ (f_ (h:=w_ (l_ (h:=w_ (f_ (h:=w_ (l_ (h:=w_ (bE (h:=wo_nil (e_ (h:=aft_normal (?_))))))))))))))))
  refine c_ (h1:=?_) (h2:=?_)
  rotate_right 1
  focus
   intro c2
   refine wc_skip (?_)
  rotate_right 1
  focus
   intro c2
   refine wa_ (wc_region (w_ (a_ (h:=wo_nil (e_ (h:=aft_normal (wc_ret (?_))))))))
  all_goals first
  | refine aft_ret ?_
  | (
   refine aft_normal ?_
   refine wa_ (wa_ (wc_region (w_ (f_ (h:=w_ (l_ (h:=w_ (f_ (h:=w_ (l_ (h:=w_ (ca (hc:=eq_Ets x.set y.set (by omega) (by omega)) (h:=w_ (u_ (h:=wo_nil (e_ (h:=aft_normal (?_))))))))))))))))))
   refine c_ (h1:=?_) (h2:=?_)
   rotate_right 1
   focus
    intro c3
    refine wc_skip (?_)
   rotate_right 1
   focus
    intro c3
    refine wa_ (wc_region (w_ (a_ (h:=wo_nil (e_ (h:=aft_normal (wc_ret (?_))))))))
   all_goals first
   | refine aft_ret ?_
   | (
    refine aft_normal ?_
    refine wa_ (wc_region (w_ (a_ (h:=wo_nil (e_ (h:=aft_normal (wc_ret (?_))))))))
    )
   )
  )
 all_goals (refine fin_ (hr:=(res_tmp rfl res_nil)) (h:=?_);(focus (first | (simp_all [Bt.eq_iff];done) | (simp [Bt.eq_iff] at *;grind))))
theorem l_eq_Bts (l m : List Bt) (h : w_Bts l < 2000000) (h2 : w_Bts m < 2000000) (hlm : l.length = m.length) : ∀ i : Nat,(i ≤ l.length) → ∀ s,normE 2 (some [0,1,5]) s = ⟨[(0,.lst false 0 (bts false l)),(1,.lst false 0 (bts false m)),(5,.int .i64 i)],[],2⟩ →
 oc.loop 114 4 s = some (if l.drop i = m.drop i then (.exit 0,⟨[],[],2⟩) else (.ret,⟨[(4,.bool false)],[],2⟩)) := by
 refine loop_ind (σ:=Nat) (fun i => l.length - i) _ (fun i => ⟨[(0,.lst false 0 (bts false l)),(1,.lst false 0 (bts false m)),(5,.int .i64 i)],[],2⟩) _ ?_
 intro i hi ih s hs
 refine loop_s cd114 rfl rfl hs ?_
 have hl1 := w_Bts_len (l:=l)
 refine wa_ (wa_ (wc_region (w_ (m_ (h:=w_ (m_ (h:=w_ (le (h:=w_ (b_ (h:=wo_nil (e_ (h:=aft_normal (?_))))))))))))))
 refine c_ (h1:=?_) (h2:=?_)
 rotate_right 1
 focus
  intro c1
  simp at c1;have : i = l.length := (by omega);subst this
  refine wc_exit (?_)
 rotate_right 1
 focus
  intro c1
  simp at c1;have hw := wrap_succ (i:=i) (by omega);obtain ⟨x,hx,d1,g1⟩ := bts_cut (t:=false) c1;obtain ⟨y,hy,d2,g2⟩ := bts_cut (t:=false) (l:=m) (i:=i) (by omega);have m1 := w_Bts_mem (List.mem_of_getElem? hx);have m2 := w_Bts_mem (List.mem_of_getElem? hy)
  refine wc_skip (?_)
 all_goals first
 | refine aft_exit ?_
 | (
  refine aft_normal ?_
  refine wa_ (wc_block (wa_ (wc_draw (y_ (m_ (h:=ax_ (h:=y_ (m_ (h:=ax_ (h:=y_ (x_ (h:=ax_ (h:=y_ (l_ (h:=ax_ (h:=y_ (m_ (h:=ax_ (h:=y_ (m_ (h:=ax_ (h:=y_ (x_ (h:=ax_ (h:=y_ (l_ (h:=ax_ (h:=?_))))))))))))))))))))))))))))
  refine y_ (ca (hc:=eq_Bt x y (by omega) (by omega)) (h:=ax_ (h:=y_ (u_ (h:=ax_ (h:=wo_nil (ed (h:=aft_normal (?_)))))))))
  refine c_ (h1:=?_) (h2:=?_)
  rotate_right 1
  focus
   intro c2
   refine wc_skip (?_)
  rotate_right 1
  focus
   intro c2
   refine wa_ (wc_region (w_ (a_ (h:=wo_nil (e_ (h:=aft_normal (wc_ret (?_))))))))
  all_goals first | refine blk_normal ?_ | refine blk_ret ?_
  all_goals first
  | refine aft_ret ?_
  | (
   refine aft_normal ?_
   refine wc_region (w_ (m_ (h:=w_ (b_ (h:=w_ (a_ (h:=wo_nil (e_ (h:=?_)))))))))
   )
  )
 all_goals first
 | (refine (ih (i + 1) (by omega) ?_ _ ?_).trans ?_;(focus (first | omega | (simp;done) | (simp;omega)));(focus (simp [normE,hw];done));(focus (simp at c2;rw [d1,d2];simp [c2])))
 | (apply end_leaf (ex:=Ext.ret) 2 (some [4]);(focus (simp [normE];rfl));(focus (simp at c2;rw [d1,d2];simp [c2])))
 | (apply end_leaf (ex:=(Ext.exit 0)) 2 (some [4]);(focus (simp [normE];rfl));(focus (rw [if_pos (by simp [hlm])])))
theorem eq_Bts (l m : List Bt) (h : w_Bts l < 2000000) (h2 : w_Bts m < 2000000) : oc.call 114 [.lst false 0 (bts false l),.lst false 0 (bts false m)] = some (.bool (decide (l = m)),[]) := by
 refine fun_s rfl cd114 rfl rfl rfl (by simp;rfl) (by simp;rfl) ?_
 refine wa_ (wc_region (w_ (a_ (h:=wo_nil (e_ (h:=aft_normal (wa_ (wa_ (wc_region (w_ (m_ (h:=w_ (le (h:=w_ (m_ (h:=w_ (le (h:=?_))))))))))))))))))
 refine w_ (bE (h:=wo_nil (e_ (h:=aft_normal (?_)))))
 refine c_ (h1:=?_) (h2:=?_)
 rotate_right 1
 focus
  intro c1
  simp at c1
  refine wc_skip (?_)
 rotate_right 1
 focus
  intro c1
  simp at c1;have hne : l ≠ m := (by rintro rfl;exact c1 rfl)
  refine wa_ (wc_region (w_ (a_ (h:=wo_nil (e_ (h:=aft_normal (wc_ret (?_))))))))
 all_goals first
 | refine aft_ret ?_
 | (
  refine aft_normal ?_
  refine wa_ (wa_ (wc_region (w_ (a_ (h:=wo_nil (e_ (h:=aft_normal (wc_block (?_)))))))))
  refine wc_loopI (l_eq_Bts l m h h2 (by omega) 0 (by omega) _ (by simp [normE])) ?_ ?_
  rotate_right 1
  focus
   intro c2
   skip
  rotate_right 1
  focus
   intro c2
   skip
  all_goals first | refine blk_ret ?_ | refine blk_exit ?_
  all_goals first
  | refine aft_ret ?_
  | (
   refine aft_normal ?_
   refine wa_ (wc_region (w_ (a_ (h:=wo_nil (e_ (h:=aft_normal (wc_ret (?_))))))))
   )
  )
 all_goals (refine fin_ (hr:=(res_tmp rfl res_nil)) (h:=?_);(focus (first | (simp_all;done) | (simp_all <;> omega) | (simp_all <;> split <;> simp_all <;> omega))))
def w_Hd (x : Hd) : Nat := w_Ets x.oldA + w_Ets x.oldB + w_Bts x.waits
def w_Hds (l : List Hd) : Nat := l.length + wS w_Hd l
theorem w_Hds_mem {l : List Hd} {x : Hd} (h : x ∈ l) : l.length + w_Hd x ≤ w_Hds l := by
  have := wS_mem (f:=w_Hd) h;unfold w_Hds;omega
theorem w_Hds_len {l : List Hd} : l.length ≤ w_Hds l := by unfold w_Hds;omega
theorem eq_Hd (x y : Hd) (h : w_Hd x < 2000000) (h2 : w_Hd y < 2000000) : oc.call 45 [x.v false,y.v false] = some (.bool (decide (x = y)),[]) := by
 refine fun_s rfl cd45 rfl rfl rfl (by simp;rfl) (by simp;rfl) ?_
 unfold w_Hd at h h2
 refine wa_ (wc_region (w_ (bx (h:=w_ (bx (h:=w_ (a_ (h:=wo_nil (e_ (h:=aft_normal (wa_ (wa_ (wc_region (w_ (f_ (h:=w_ (l_ (h:=?_))))))))))))))))))
 refine w_ (f_ (h:=w_ (l_ (h:=?_))))
 first | refine w_ (ca (hc:=eq_Ets x.oldA y.oldA (by omega) (by omega)) (h:=?_)) | refine w_ (ca (hc:=eq_Ets x.oldB y.oldB (by omega) (by omega)) (h:=?_))
 refine w_ (u_ (h:=wo_nil (e_ (h:=aft_normal (?_)))))
 refine c_ (h1:=?_) (h2:=?_)
 rotate_right 1
 focus
  intro c1
  refine wc_skip (?_)
 rotate_right 1
 focus
  intro c1
  refine wa_ (wc_region (w_ (a_ (h:=wo_nil (e_ (h:=aft_normal (wc_ret (?_))))))))
 all_goals first
 | refine aft_ret ?_
 | (
  refine aft_normal ?_
  refine wa_ (wa_ (wc_region (w_ (f_ (h:=w_ (l_ (h:=w_ (f_ (h:=w_ (l_ (h:=?_)))))))))))
  first | refine w_ (ca (hc:=eq_Ets x.oldA y.oldA (by omega) (by omega)) (h:=?_)) | refine w_ (ca (hc:=eq_Ets x.oldB y.oldB (by omega) (by omega)) (h:=?_))
  refine w_ (u_ (h:=wo_nil (e_ (h:=aft_normal (?_)))))
  refine c_ (h1:=?_) (h2:=?_)
  rotate_right 1
  focus
   intro c2
   refine wc_skip (?_)
  rotate_right 1
  focus
   intro c2
   refine wa_ (wc_region (w_ (a_ (h:=wo_nil (e_ (h:=aft_normal (wc_ret (?_))))))))
  all_goals first
  | refine aft_ret ?_
  | (
   refine aft_normal ?_
   refine wa_ (wa_ (wc_region (w_ (f_ (h:=w_ (l_ (h:=w_ (f_ (h:=w_ (l_ (h:=w_ (ca (hc:=eq_Bts x.waits y.waits (by omega) (by omega)) (h:=w_ (u_ (h:=wo_nil (e_ (h:=aft_normal (?_))))))))))))))))))
   refine c_ (h1:=?_) (h2:=?_)
   rotate_right 1
   focus
    intro c3
    refine wc_skip (?_)
   rotate_right 1
   focus
    intro c3
    refine wa_ (wc_region (w_ (a_ (h:=wo_nil (e_ (h:=aft_normal (wc_ret (?_))))))))
   all_goals first
   | refine aft_ret ?_
   | (
    refine aft_normal ?_
    refine wa_ (wa_ (wc_region (w_ (f_ (h:=w_ (l_ (h:=w_ (f_ (h:=w_ (l_ (h:=w_ (bE (h:=wo_nil (e_ (h:=aft_normal (?_))))))))))))))))
    refine c_ (h1:=?_) (h2:=?_)
    rotate_right 1
    focus
     intro c4
     refine wc_skip (?_)
    rotate_right 1
    focus
     intro c4
     refine wa_ (wc_region (w_ (a_ (h:=wo_nil (e_ (h:=aft_normal (wc_ret (?_))))))))
    all_goals first
    | refine aft_ret ?_
    | (
     refine aft_normal ?_
     refine wa_ (wc_region (w_ (a_ (h:=wo_nil (e_ (h:=aft_normal (wc_ret (?_))))))))
     )
    )
   )
  )
 all_goals (refine fin_ (hr:=(res_tmp rfl res_nil)) (h:=?_);(focus (first | (simp_all [Hd.eq_iff];done) | (simp [Hd.eq_iff] at *;grind))))
theorem l_eq_Hds (l m : List Hd) (h : w_Hds l < 2000000) (h2 : w_Hds m < 2000000) (hlm : l.length = m.length) : ∀ i : Nat,(i ≤ l.length) → ∀ s,normE 2 (some [0,1,5]) s = ⟨[(0,.lst false 0 (hds false l)),(1,.lst false 0 (hds false m)),(5,.int .i64 i)],[],2⟩ →
 oc.loop 252 4 s = some (if l.drop i = m.drop i then (.exit 0,⟨[],[],2⟩) else (.ret,⟨[(4,.bool false)],[],2⟩)) := by
 refine loop_ind (σ:=Nat) (fun i => l.length - i) _ (fun i => ⟨[(0,.lst false 0 (hds false l)),(1,.lst false 0 (hds false m)),(5,.int .i64 i)],[],2⟩) _ ?_
 intro i hi ih s hs
 refine loop_s cd252 rfl rfl hs ?_
 have hl1 := w_Hds_len (l:=l)
 refine wa_ (wa_ (wc_region (w_ (m_ (h:=w_ (m_ (h:=w_ (le (h:=w_ (b_ (h:=wo_nil (e_ (h:=aft_normal (?_))))))))))))))
 refine c_ (h1:=?_) (h2:=?_)
 rotate_right 1
 focus
  intro c1
  simp at c1;have : i = l.length := (by omega);subst this
  refine wc_exit (?_)
 rotate_right 1
 focus
  intro c1
  simp at c1;have hw := wrap_succ (i:=i) (by omega);obtain ⟨x,hx,d1,g1⟩ := hds_cut (t:=false) c1;obtain ⟨y,hy,d2,g2⟩ := hds_cut (t:=false) (l:=m) (i:=i) (by omega);have m1 := w_Hds_mem (List.mem_of_getElem? hx);have m2 := w_Hds_mem (List.mem_of_getElem? hy)
  refine wc_skip (?_)
 all_goals first
 | refine aft_exit ?_
 | (
  refine aft_normal ?_
  refine wa_ (wc_block (wa_ (wc_draw (y_ (m_ (h:=ax_ (h:=y_ (m_ (h:=ax_ (h:=y_ (x_ (h:=ax_ (h:=y_ (l_ (h:=ax_ (h:=y_ (m_ (h:=ax_ (h:=y_ (m_ (h:=ax_ (h:=y_ (x_ (h:=ax_ (h:=y_ (l_ (h:=ax_ (h:=?_))))))))))))))))))))))))))))
  refine y_ (ca (hc:=eq_Hd x y (by omega) (by omega)) (h:=ax_ (h:=y_ (u_ (h:=ax_ (h:=wo_nil (ed (h:=aft_normal (?_)))))))))
  refine c_ (h1:=?_) (h2:=?_)
  rotate_right 1
  focus
   intro c2
   refine wc_skip (?_)
  rotate_right 1
  focus
   intro c2
   refine wa_ (wc_region (w_ (a_ (h:=wo_nil (e_ (h:=aft_normal (wc_ret (?_))))))))
  all_goals first | refine blk_normal ?_ | refine blk_ret ?_
  all_goals first
  | refine aft_ret ?_
  | (
   refine aft_normal ?_
   refine wc_region (w_ (m_ (h:=w_ (b_ (h:=w_ (a_ (h:=wo_nil (e_ (h:=?_)))))))))
   )
  )
 all_goals first
 | (refine (ih (i + 1) (by omega) ?_ _ ?_).trans ?_;(focus (first | omega | (simp;done) | (simp;omega)));(focus (simp [normE,hw];done));(focus (simp at c2;rw [d1,d2];simp [c2])))
 | (apply end_leaf (ex:=Ext.ret) 2 (some [4]);(focus (simp [normE];rfl));(focus (simp at c2;rw [d1,d2];simp [c2])))
 | (apply end_leaf (ex:=(Ext.exit 0)) 2 (some [4]);(focus (simp [normE];rfl));(focus (rw [if_pos (by simp [hlm])])))
theorem eq_Hds (l m : List Hd) (h : w_Hds l < 2000000) (h2 : w_Hds m < 2000000) : oc.call 252 [.lst false 0 (hds false l),.lst false 0 (hds false m)] = some (.bool (decide (l = m)),[]) := by
 refine fun_s rfl cd252 rfl rfl rfl (by simp;rfl) (by simp;rfl) ?_
 refine wa_ (wc_region (w_ (a_ (h:=wo_nil (e_ (h:=aft_normal (wa_ (wa_ (wc_region (w_ (m_ (h:=w_ (le (h:=w_ (m_ (h:=w_ (le (h:=?_))))))))))))))))))
 refine w_ (bE (h:=wo_nil (e_ (h:=aft_normal (?_)))))
 refine c_ (h1:=?_) (h2:=?_)
 rotate_right 1
 focus
  intro c1
  simp at c1
  refine wc_skip (?_)
 rotate_right 1
 focus
  intro c1
  simp at c1;have hne : l ≠ m := (by rintro rfl;exact c1 rfl)
  refine wa_ (wc_region (w_ (a_ (h:=wo_nil (e_ (h:=aft_normal (wc_ret (?_))))))))
 all_goals first
 | refine aft_ret ?_
 | (
  refine aft_normal ?_
  refine wa_ (wa_ (wc_region (w_ (a_ (h:=wo_nil (e_ (h:=aft_normal (wc_block (?_)))))))))
  refine wc_loopI (l_eq_Hds l m h h2 (by omega) 0 (by omega) _ (by simp [normE])) ?_ ?_
  rotate_right 1
  focus
   intro c2
   skip
  rotate_right 1
  focus
   intro c2
   skip
  all_goals first | refine blk_ret ?_ | refine blk_exit ?_
  all_goals first
  | refine aft_ret ?_
  | (
   refine aft_normal ?_
   refine wa_ (wc_region (w_ (a_ (h:=wo_nil (e_ (h:=aft_normal (wc_ret (?_))))))))
   )
  )
 all_goals (refine fin_ (hr:=(res_tmp rfl res_nil)) (h:=?_);(focus (first | (simp_all;done) | (simp_all <;> omega) | (simp_all <;> split <;> simp_all <;> omega))))
def w_Rl (x : Rl) : Nat := w_Ets x.set
def w_Rls (l : List Rl) : Nat := l.length + wS w_Rl l
theorem w_Rls_mem {l : List Rl} {x : Rl} (h : x ∈ l) : l.length + w_Rl x ≤ w_Rls l := by
  have := wS_mem (f:=w_Rl) h;unfold w_Rls;omega
theorem w_Rls_len {l : List Rl} : l.length ≤ w_Rls l := by unfold w_Rls;omega
theorem eq_Rl (x y : Rl) (h : w_Rl x < 2000000) (h2 : w_Rl y < 2000000) : oc.call 259 [x.v false,y.v false] = some (.bool (decide (x = y)),[]) := by
 refine fun_s rfl cd259 rfl rfl rfl (by simp;rfl) (by simp;rfl) ?_
 unfold w_Rl at h h2
 refine wa_ (wc_region (w_ (bx (h:=w_ (bx (h:=w_ (a_ (h:=wo_nil (e_ (h:=aft_normal (wa_ (wa_ (wc_region (w_ (f_ (h:=w_ (l_ (h:=?_))))))))))))))))))
 refine w_ (f_ (h:=w_ (l_ (h:=w_ (bE (h:=wo_nil (e_ (h:=aft_normal (?_)))))))))
 refine c_ (h1:=?_) (h2:=?_)
 rotate_right 1
 focus
  intro c1
  refine wc_skip (?_)
 rotate_right 1
 focus
  intro c1
  refine wa_ (wc_region (w_ (a_ (h:=wo_nil (e_ (h:=aft_normal (wc_ret (?_))))))))
 all_goals first
 | refine aft_ret ?_
 | (
  refine aft_normal ?_
  refine wa_ (wa_ (wc_region (w_ (f_ (h:=w_ (l_ (h:=w_ (f_ (h:=w_ (l_ (h:=w_ (bE (h:=wo_nil (e_ (h:=aft_normal (?_))))))))))))))))
  refine c_ (h1:=?_) (h2:=?_)
  rotate_right 1
  focus
   intro c2
   refine wc_skip (?_)
  rotate_right 1
  focus
   intro c2
   refine wa_ (wc_region (w_ (a_ (h:=wo_nil (e_ (h:=aft_normal (wc_ret (?_))))))))
  all_goals first
  | refine aft_ret ?_
  | (
   refine aft_normal ?_
   refine wa_ (wa_ (wc_region (w_ (f_ (h:=w_ (l_ (h:=w_ (f_ (h:=w_ (l_ (h:=w_ (ca (hc:=eq_Ets x.set y.set (by omega) (by omega)) (h:=w_ (u_ (h:=wo_nil (e_ (h:=aft_normal (?_))))))))))))))))))
   refine c_ (h1:=?_) (h2:=?_)
   rotate_right 1
   focus
    intro c3
    refine wc_skip (?_)
   rotate_right 1
   focus
    intro c3
    refine wa_ (wc_region (w_ (a_ (h:=wo_nil (e_ (h:=aft_normal (wc_ret (?_))))))))
   all_goals first
   | refine aft_ret ?_
   | (
    refine aft_normal ?_
    refine wa_ (wc_region (w_ (a_ (h:=wo_nil (e_ (h:=aft_normal (wc_ret (?_))))))))
    )
   )
  )
 all_goals (refine fin_ (hr:=(res_tmp rfl res_nil)) (h:=?_);(focus (first | (simp_all [Rl.eq_iff];done) | (simp [Rl.eq_iff] at *;grind))))
theorem l_eq_Rls (l m : List Rl) (h : w_Rls l < 2000000) (h2 : w_Rls m < 2000000) (hlm : l.length = m.length) : ∀ i : Nat,(i ≤ l.length) → ∀ s,normE 2 (some [0,1,5]) s = ⟨[(0,.lst false 0 (rls false l)),(1,.lst false 0 (rls false m)),(5,.int .i64 i)],[],2⟩ →
 oc.loop 253 4 s = some (if l.drop i = m.drop i then (.exit 0,⟨[],[],2⟩) else (.ret,⟨[(4,.bool false)],[],2⟩)) := by
 refine loop_ind (σ:=Nat) (fun i => l.length - i) _ (fun i => ⟨[(0,.lst false 0 (rls false l)),(1,.lst false 0 (rls false m)),(5,.int .i64 i)],[],2⟩) _ ?_
 intro i hi ih s hs
 refine loop_s cd253 rfl rfl hs ?_
 have hl1 := w_Rls_len (l:=l)
 refine wa_ (wa_ (wc_region (w_ (m_ (h:=w_ (m_ (h:=w_ (le (h:=w_ (b_ (h:=wo_nil (e_ (h:=aft_normal (?_))))))))))))))
 refine c_ (h1:=?_) (h2:=?_)
 rotate_right 1
 focus
  intro c1
  simp at c1;have : i = l.length := (by omega);subst this
  refine wc_exit (?_)
 rotate_right 1
 focus
  intro c1
  simp at c1;have hw := wrap_succ (i:=i) (by omega);obtain ⟨x,hx,d1,g1⟩ := rls_cut (t:=false) c1;obtain ⟨y,hy,d2,g2⟩ := rls_cut (t:=false) (l:=m) (i:=i) (by omega);have m1 := w_Rls_mem (List.mem_of_getElem? hx);have m2 := w_Rls_mem (List.mem_of_getElem? hy)
  refine wc_skip (?_)
 all_goals first
 | refine aft_exit ?_
 | (
  refine aft_normal ?_
  refine wa_ (wc_block (wa_ (wc_draw (y_ (m_ (h:=ax_ (h:=y_ (m_ (h:=ax_ (h:=y_ (x_ (h:=ax_ (h:=y_ (l_ (h:=ax_ (h:=y_ (m_ (h:=ax_ (h:=y_ (m_ (h:=ax_ (h:=y_ (x_ (h:=ax_ (h:=y_ (l_ (h:=ax_ (h:=?_))))))))))))))))))))))))))))
  refine y_ (ca (hc:=eq_Rl x y (by omega) (by omega)) (h:=ax_ (h:=y_ (u_ (h:=ax_ (h:=wo_nil (ed (h:=aft_normal (?_)))))))))
  refine c_ (h1:=?_) (h2:=?_)
  rotate_right 1
  focus
   intro c2
   refine wc_skip (?_)
  rotate_right 1
  focus
   intro c2
   refine wa_ (wc_region (w_ (a_ (h:=wo_nil (e_ (h:=aft_normal (wc_ret (?_))))))))
  all_goals first | refine blk_normal ?_ | refine blk_ret ?_
  all_goals first
  | refine aft_ret ?_
  | (
   refine aft_normal ?_
   refine wc_region (w_ (m_ (h:=w_ (b_ (h:=w_ (a_ (h:=wo_nil (e_ (h:=?_)))))))))
   )
  )
 all_goals first
 | (refine (ih (i + 1) (by omega) ?_ _ ?_).trans ?_;(focus (first | omega | (simp;done) | (simp;omega)));(focus (simp [normE,hw];done));(focus (simp at c2;rw [d1,d2];simp [c2])))
 | (apply end_leaf (ex:=Ext.ret) 2 (some [4]);(focus (simp [normE];rfl));(focus (simp at c2;rw [d1,d2];simp [c2])))
 | (apply end_leaf (ex:=(Ext.exit 0)) 2 (some [4]);(focus (simp [normE];rfl));(focus (rw [if_pos (by simp [hlm])])))
theorem eq_Rls (l m : List Rl) (h : w_Rls l < 2000000) (h2 : w_Rls m < 2000000) : oc.call 253 [.lst false 0 (rls false l),.lst false 0 (rls false m)] = some (.bool (decide (l = m)),[]) := by
 refine fun_s rfl cd253 rfl rfl rfl (by simp;rfl) (by simp;rfl) ?_
 refine wa_ (wc_region (w_ (a_ (h:=wo_nil (e_ (h:=aft_normal (wa_ (wa_ (wc_region (w_ (m_ (h:=w_ (le (h:=w_ (m_ (h:=w_ (le (h:=?_))))))))))))))))))
 refine w_ (bE (h:=wo_nil (e_ (h:=aft_normal (?_)))))
 refine c_ (h1:=?_) (h2:=?_)
 rotate_right 1
 focus
  intro c1
  simp at c1
  refine wc_skip (?_)
 rotate_right 1
 focus
  intro c1
  simp at c1;have hne : l ≠ m := (by rintro rfl;exact c1 rfl)
  refine wa_ (wc_region (w_ (a_ (h:=wo_nil (e_ (h:=aft_normal (wc_ret (?_))))))))
 all_goals first
 | refine aft_ret ?_
 | (
  refine aft_normal ?_
  refine wa_ (wa_ (wc_region (w_ (a_ (h:=wo_nil (e_ (h:=aft_normal (wc_block (?_)))))))))
  refine wc_loopI (l_eq_Rls l m h h2 (by omega) 0 (by omega) _ (by simp [normE])) ?_ ?_
  rotate_right 1
  focus
   intro c2
   skip
  rotate_right 1
  focus
   intro c2
   skip
  all_goals first | refine blk_ret ?_ | refine blk_exit ?_
  all_goals first
  | refine aft_ret ?_
  | (
   refine aft_normal ?_
   refine wa_ (wc_region (w_ (a_ (h:=wo_nil (e_ (h:=aft_normal (wc_ret (?_))))))))
   )
  )
 all_goals (refine fin_ (hr:=(res_tmp rfl res_nil)) (h:=?_);(focus (first | (simp_all;done) | (simp_all <;> omega) | (simp_all <;> split <;> simp_all <;> omega))))
def w_Wk (x : Wk) : Nat := w_Frs x.inbox + x.counts.length + w_Hds x.nodes + w_Rls x.outs
def w_Wks (l : List Wk) : Nat := l.length + wS w_Wk l
theorem w_Wks_mem {l : List Wk} {x : Wk} (h : x ∈ l) : l.length + w_Wk x ≤ w_Wks l := by
  have := wS_mem (f:=w_Wk) h;unfold w_Wks;omega
theorem w_Wks_len {l : List Wk} : l.length ≤ w_Wks l := by unfold w_Wks;omega
theorem eq_Wk (x y : Wk) (h : w_Wk x < 2000000) (h2 : w_Wk y < 2000000) : oc.call 236 [x.v false,y.v false] = some (.bool (decide (x = y)),[]) := by
 refine fun_s rfl cd236 rfl rfl rfl (by simp;rfl) (by simp;rfl) ?_
 unfold w_Wk at h h2
 refine wa_ (wc_region (w_ (bx (h:=w_ (bx (h:=w_ (a_ (h:=wo_nil (e_ (h:=aft_normal (wa_ (wa_ (wc_region (w_ (f_ (h:=w_ (l_ (h:=?_))))))))))))))))))
 refine w_ (f_ (h:=w_ (l_ (h:=w_ (ca (hc:=eq_Frs x.inbox y.inbox (by omega) (by omega)) (h:=w_ (u_ (h:=wo_nil (e_ (h:=aft_normal (?_)))))))))))
 refine c_ (h1:=?_) (h2:=?_)
 rotate_right 1
 focus
  intro c1
  refine wc_skip (?_)
 rotate_right 1
 focus
  intro c1
  refine wa_ (wc_region (w_ (a_ (h:=wo_nil (e_ (h:=aft_normal (wc_ret (?_))))))))
 all_goals first
 | refine aft_ret ?_
 | (
  refine aft_normal ?_
  refine wa_ (wa_ (wc_region (w_ (f_ (h:=w_ (l_ (h:=w_ (f_ (h:=w_ (l_ (h:=w_ (ca (hc:=eq_Cts x.counts y.counts (by omega) (by omega)) (h:=w_ (u_ (h:=wo_nil (e_ (h:=aft_normal (?_))))))))))))))))))
  refine c_ (h1:=?_) (h2:=?_)
  rotate_right 1
  focus
   intro c2
   refine wc_skip (?_)
  rotate_right 1
  focus
   intro c2
   refine wa_ (wc_region (w_ (a_ (h:=wo_nil (e_ (h:=aft_normal (wc_ret (?_))))))))
  all_goals first
  | refine aft_ret ?_
  | (
   refine aft_normal ?_
   refine wa_ (wa_ (wc_region (w_ (f_ (h:=w_ (l_ (h:=w_ (f_ (h:=w_ (l_ (h:=w_ (ca (hc:=eq_Hds x.nodes y.nodes (by omega) (by omega)) (h:=w_ (u_ (h:=wo_nil (e_ (h:=aft_normal (?_))))))))))))))))))
   refine c_ (h1:=?_) (h2:=?_)
   rotate_right 1
   focus
    intro c3
    refine wc_skip (?_)
   rotate_right 1
   focus
    intro c3
    refine wa_ (wc_region (w_ (a_ (h:=wo_nil (e_ (h:=aft_normal (wc_ret (?_))))))))
   all_goals first
   | refine aft_ret ?_
   | (
    refine aft_normal ?_
    refine wa_ (wa_ (wc_region (w_ (f_ (h:=w_ (l_ (h:=w_ (f_ (h:=w_ (l_ (h:=w_ (bE (h:=wo_nil (e_ (h:=aft_normal (?_))))))))))))))))
    refine c_ (h1:=?_) (h2:=?_)
    rotate_right 1
    focus
     intro c4
     refine wc_skip (?_)
    rotate_right 1
    focus
     intro c4
     refine wa_ (wc_region (w_ (a_ (h:=wo_nil (e_ (h:=aft_normal (wc_ret (?_))))))))
    all_goals first
    | refine aft_ret ?_
    | (
     refine aft_normal ?_
     refine wa_ (wa_ (wc_region (w_ (f_ (h:=w_ (l_ (h:=w_ (f_ (h:=w_ (l_ (h:=w_ (bE (h:=wo_nil (e_ (h:=aft_normal (?_))))))))))))))))
     refine c_ (h1:=?_) (h2:=?_)
     rotate_right 1
     focus
      intro c5
      refine wc_skip (?_)
     rotate_right 1
     focus
      intro c5
      refine wa_ (wc_region (w_ (a_ (h:=wo_nil (e_ (h:=aft_normal (wc_ret (?_))))))))
     all_goals first
     | refine aft_ret ?_
     | (
      refine aft_normal ?_
      refine wa_ (wa_ (wc_region (w_ (f_ (h:=w_ (l_ (h:=w_ (f_ (h:=w_ (l_ (h:=w_ (ca (hc:=eq_Rls x.outs y.outs (by omega) (by omega)) (h:=w_ (u_ (h:=wo_nil (e_ (h:=aft_normal (?_))))))))))))))))))
      refine c_ (h1:=?_) (h2:=?_)
      rotate_right 1
      focus
       intro c6
       refine wc_skip (?_)
      rotate_right 1
      focus
       intro c6
       refine wa_ (wc_region (w_ (a_ (h:=wo_nil (e_ (h:=aft_normal (wc_ret (?_))))))))
      all_goals first
      | refine aft_ret ?_
      | (
       refine aft_normal ?_
       refine wa_ (wa_ (wc_region (w_ (f_ (h:=w_ (l_ (h:=w_ (f_ (h:=w_ (l_ (h:=w_ (bE (h:=wo_nil (e_ (h:=aft_normal (?_))))))))))))))))
       refine c_ (h1:=?_) (h2:=?_)
       rotate_right 1
       focus
        intro c7
        refine wc_skip (?_)
       rotate_right 1
       focus
        intro c7
        refine wa_ (wc_region (w_ (a_ (h:=wo_nil (e_ (h:=aft_normal (wc_ret (?_))))))))
       all_goals first
       | refine aft_ret ?_
       | (
        refine aft_normal ?_
        refine wa_ (wc_region (w_ (a_ (h:=wo_nil (e_ (h:=aft_normal (wc_ret (?_))))))))
        )
       )
      )
     )
    )
   )
  )
 all_goals (refine fin_ (hr:=(res_tmp rfl res_nil)) (h:=?_);(focus (first | (simp_all [Wk.eq_iff];done) | (simp [Wk.eq_iff] at *;grind))))
theorem l_eq_Wks (l m : List Wk) (h : w_Wks l < 2000000) (h2 : w_Wks m < 2000000) (hlm : l.length = m.length) : ∀ i : Nat,(i ≤ l.length) → ∀ s,normE 2 (some [0,1,5]) s = ⟨[(0,.lst false 0 (wks false l)),(1,.lst false 0 (wks false m)),(5,.int .i64 i)],[],2⟩ →
 oc.loop 212 4 s = some (if l.drop i = m.drop i then (.exit 0,⟨[],[],2⟩) else (.ret,⟨[(4,.bool false)],[],2⟩)) := by
 refine loop_ind (σ:=Nat) (fun i => l.length - i) _ (fun i => ⟨[(0,.lst false 0 (wks false l)),(1,.lst false 0 (wks false m)),(5,.int .i64 i)],[],2⟩) _ ?_
 intro i hi ih s hs
 refine loop_s cd212 rfl rfl hs ?_
 have hl1 := w_Wks_len (l:=l)
 refine wa_ (wa_ (wc_region (w_ (m_ (h:=w_ (m_ (h:=w_ (le (h:=w_ (b_ (h:=wo_nil (e_ (h:=aft_normal (?_))))))))))))))
 refine c_ (h1:=?_) (h2:=?_)
 rotate_right 1
 focus
  intro c1
  simp at c1;have : i = l.length := (by omega);subst this
  refine wc_exit (?_)
 rotate_right 1
 focus
  intro c1
  simp at c1;have hw := wrap_succ (i:=i) (by omega);obtain ⟨x,hx,d1,g1⟩ := wks_cut (t:=false) c1;obtain ⟨y,hy,d2,g2⟩ := wks_cut (t:=false) (l:=m) (i:=i) (by omega);have m1 := w_Wks_mem (List.mem_of_getElem? hx);have m2 := w_Wks_mem (List.mem_of_getElem? hy)
  refine wc_skip (?_)
 all_goals first
 | refine aft_exit ?_
 | (
  refine aft_normal ?_
  refine wa_ (wc_block (wa_ (wc_draw (y_ (m_ (h:=ax_ (h:=y_ (m_ (h:=ax_ (h:=y_ (x_ (h:=ax_ (h:=y_ (l_ (h:=ax_ (h:=y_ (m_ (h:=ax_ (h:=y_ (m_ (h:=ax_ (h:=y_ (x_ (h:=ax_ (h:=y_ (l_ (h:=ax_ (h:=?_))))))))))))))))))))))))))))
  refine y_ (ca (hc:=eq_Wk x y (by omega) (by omega)) (h:=ax_ (h:=y_ (u_ (h:=ax_ (h:=wo_nil (ed (h:=aft_normal (?_)))))))))
  refine c_ (h1:=?_) (h2:=?_)
  rotate_right 1
  focus
   intro c2
   refine wc_skip (?_)
  rotate_right 1
  focus
   intro c2
   refine wa_ (wc_region (w_ (a_ (h:=wo_nil (e_ (h:=aft_normal (wc_ret (?_))))))))
  all_goals first | refine blk_normal ?_ | refine blk_ret ?_
  all_goals first
  | refine aft_ret ?_
  | (
   refine aft_normal ?_
   refine wc_region (w_ (m_ (h:=w_ (b_ (h:=w_ (a_ (h:=wo_nil (e_ (h:=?_)))))))))
   )
  )
 all_goals first
 | (refine (ih (i + 1) (by omega) ?_ _ ?_).trans ?_;(focus (first | omega | (simp;done) | (simp;omega)));(focus (simp [normE,hw];done));(focus (simp at c2;rw [d1,d2];simp [c2])))
 | (apply end_leaf (ex:=Ext.ret) 2 (some [4]);(focus (simp [normE];rfl));(focus (simp at c2;rw [d1,d2];simp [c2])))
 | (apply end_leaf (ex:=(Ext.exit 0)) 2 (some [4]);(focus (simp [normE];rfl));(focus (rw [if_pos (by simp [hlm])])))
theorem eq_Wks (l m : List Wk) (h : w_Wks l < 2000000) (h2 : w_Wks m < 2000000) : oc.call 212 [.lst false 0 (wks false l),.lst false 0 (wks false m)] = some (.bool (decide (l = m)),[]) := by
 refine fun_s rfl cd212 rfl rfl rfl (by simp;rfl) (by simp;rfl) ?_
 refine wa_ (wc_region (w_ (a_ (h:=wo_nil (e_ (h:=aft_normal (wa_ (wa_ (wc_region (w_ (m_ (h:=w_ (le (h:=w_ (m_ (h:=w_ (le (h:=?_))))))))))))))))))
 refine w_ (bE (h:=wo_nil (e_ (h:=aft_normal (?_)))))
 refine c_ (h1:=?_) (h2:=?_)
 rotate_right 1
 focus
  intro c1
  simp at c1
  refine wc_skip (?_)
 rotate_right 1
 focus
  intro c1
  simp at c1;have hne : l ≠ m := (by rintro rfl;exact c1 rfl)
  refine wa_ (wc_region (w_ (a_ (h:=wo_nil (e_ (h:=aft_normal (wc_ret (?_))))))))
 all_goals first
 | refine aft_ret ?_
 | (
  refine aft_normal ?_
  refine wa_ (wa_ (wc_region (w_ (a_ (h:=wo_nil (e_ (h:=aft_normal (wc_block (?_)))))))))
  refine wc_loopI (l_eq_Wks l m h h2 (by omega) 0 (by omega) _ (by simp [normE])) ?_ ?_
  rotate_right 1
  focus
   intro c2
   skip
  rotate_right 1
  focus
   intro c2
   skip
  all_goals first | refine blk_ret ?_ | refine blk_exit ?_
  all_goals first
  | refine aft_ret ?_
  | (
   refine aft_normal ?_
   refine wa_ (wc_region (w_ (a_ (h:=wo_nil (e_ (h:=aft_normal (wc_ret (?_))))))))
   )
  )
 all_goals (refine fin_ (hr:=(res_tmp rfl res_nil)) (h:=?_);(focus (first | (simp_all;done) | (simp_all <;> omega) | (simp_all <;> split <;> simp_all <;> omega))))
theorem oc_ok : CallOK Try.prog oc.call := by
  unfold oc
  exact or_sound (by kernel_rfl) tb
def i64ok (m : Int) : Prop := -9223372036854775808 ≤ m ∧ m ≤ 9223372036854775807
theorem dInt {n : Nat} {v : V} (h : hasT Try.prog (n + 1) 2 v) : ∃ m,v = .int .i64 m ∧ i64ok m := by
  obtain ⟨m,e,h1,h2⟩ := dec_int Try.underlying2 h
  exact ⟨m,e,by simpa [i64ok,IntKind.min,IntKind.max,IntKind.signed,IntKind.bits] using ⟨h1,h2⟩⟩
theorem dInts {n : Nat} {v : V} (h : hasT Try.prog (n + 2) 58 v) : ∃ l,v = .lst false 0 (ints l) ∧ l.length ≤ 140737488351232 ∧ ∀ m ∈ l,i64ok m := by
  obtain ⟨xs,e,h1,h2⟩ := dec_slice Try.underlying58 h
  obtain ⟨l,e2,h3⟩ := dec_list (f:=fun m => V.int .i64 m) (p:=i64ok) (fun x hx => dInt (h2 x hx))
  exact ⟨l,by rw [e,e2];rfl,by rw [e2] at h1;simpa using h1,h3⟩
theorem dNode {n : Nat} {v : V} (h : hasT Try.prog (n + 3) 139 v) : ∃ d : Nd,v = d.v false 0 ∧ d.cells.length ≤ 140737488351232 := by
  obtain ⟨xs,e,x1,q1,rfl,t1,x2,q2,rfl,t2,x3,q3,rfl,t3,x4,q4,rfl,t4,x5,q5,rfl,t5,x6,q6,rfl,t6,x7,q7,rfl,t7,hq⟩ := dec_struct Try.underlying139 h
  obtain ⟨a1,rfl,_⟩ := dInt t1;obtain ⟨a2,rfl,_⟩ := dInt t2;obtain ⟨a3,rfl,_⟩ := dInt t3;obtain ⟨a4,rfl,_⟩ := dInt t4;obtain ⟨a5,rfl,_⟩ := dInt t5;obtain ⟨a6,rfl,_⟩ := dInt t6
  obtain ⟨l,rfl,hl,_⟩ := dInts t7
  simp only [List.map_nil,hasL] at hq
  subst hq
  exact ⟨⟨a1,a2,a3,a4,a5,a6,l⟩,e,hl⟩
theorem dNodes {n : Nat} {v : V} (h : hasT Try.prog (n + 4) 61 v) : ∃ l,v = .lst false 0 (nds false 0 l) ∧ okB l := by
  obtain ⟨xs,e,h1,h2⟩ := dec_slice Try.underlying61 h
  obtain ⟨l,e2,h3⟩ := dec_list (f:=Nd.v false 0) (p:=fun d => d.cells.length ≤ 140737488351232) (fun x hx => dNode (h2 x hx))
  exact ⟨l,by rw [e,e2];rfl,by rw [e2] at h1;simpa using h1,h3⟩
end Go.Proofs.Ytgkbmiaimjpbfaa.Ev
namespace Go.Proofs.Ytgkbmiaimjpbfaa.Ev
open Go
set_option maxRecDepth 100000
set_option linter.unusedSimpArgs false
set_option linter.unusedVariables false
set_option maxHeartbeats 2000000
def mkI (k : Int) (n : Nat) : List Int := (List.range n).map fun (i : Nat) => k + i
@[simp] theorem mkI_len {k : Int} {n : Nat} : (mkI k n).length = n := by simp [mkI]
theorem mkI_at {k : Int} {n i : Nat} (h : i < n) : (mkI k n)[i]? = some (k + i) := by simp [mkI,h]
theorem alikeL_map {α : Type} {f g : α → V} (hf : ∀ x y,(f x).alike (g y) = true) : ∀ {a b : List α},V.alikeL (a.map f) (b.map g) = decide (a.length = b.length)
  | [],[] => rfl
  | [],_ :: _ => by simp [V.alikeL]
  | _ :: _,[] => by simp [V.alikeL]
  | x :: a,y :: b => by simp only [List.map_cons,V.alikeL,hf,Bool.true_and,alikeL_map hf (a:=a) (b:=b),List.length_cons,Nat.add_right_cancel_iff]
@[simp] theorem alike_ints (a b : List Int) : V.alikeL (ints a) (ints b) = decide (a.length = b.length) := alikeL_map (fun _ _ => rfl)
theorem set_drop {α : Type} {r l : List α} {i : Nat} {x : α} (h : r.drop i = l.drop i) : (r.set i x).drop (i + 1) = l.drop (i + 1) := by
  rw [List.drop_set_of_lt (by omega),← List.drop_drop,h,List.drop_drop]
theorem wS_cut {α : Type} {f : α → Nat} {l : List α} {i : Nat} {x : α} (h : l[i]? = some x) : wS f (l.take (i + 1)) = wS f (l.take i) + f x := by
  induction l generalizing i with
  | nil => simp at h
  | cons y r ih =>
    cases i with
    | zero => simp at h;subst h;simp
    | succ i => simp at h;simp only [List.take_succ_cons,wS_cons];rw [ih h];omega
theorem wS_take {α : Type} {f : α → Nat} {l : List α} {i : Nat} : wS f (l.take i) ≤ wS f l := by
  induction l generalizing i with
  | nil => simp
  | cons y r ih =>
    cases i with
    | zero => simp
    | succ i => have := ih (i:=i);simp only [List.take_succ_cons,wS_cons];omega
theorem wS_len {α : Type} {f : α → Nat} (hf : ∀ x,1 ≤ f x) {l : List α} : l.length ≤ wS f l := by
  induction l with
  | nil => simp
  | cons y r ih => have := hf y;simp only [List.length_cons,wS_cons];omega
theorem l_mk_I (k : Int) (n : Nat) (hk : 0 ≤ k) (hb : k + n < 1000000000000000000) : ∀ x : Nat × (List Int),(x.1 ≤ n ∧ x.2.length = n ∧ x.2.take x.1 = (mkI k n).take x.1) → ∀ s,normE 2 (some [0,1,5]) s = ⟨[(0,.ref 0 0 n),(1,.int .i64 (k + x.1)),(5,.int .i64 x.1)],[(0,⟨false,true,1,ints x.2,0⟩)],2⟩ →
 oc.loop 82 2 s = some (.exit 0,⟨[(1,.int .i64 (k + n))],[(0,⟨false,true,1,ints (mkI k n),0⟩)],2⟩) := by
 refine loop_ind (σ:=Nat × (List Int)) (fun x => n - x.1) _ (fun x => ⟨[(0,.ref 0 0 n),(1,.int .i64 (k + x.1)),(5,.int .i64 x.1)],[(0,⟨false,true,1,ints x.2,0⟩)],2⟩) _ ?_
 rintro ⟨i,r⟩ hi ih s hs
 simp only at hi
 refine loop_s cd82 rfl rfl hs ?_
 obtain ⟨hi1,hi2,hi3⟩ := hi
 refine wa_ (wa_ (wc_region (w_ (m_ (h:=w_ (m_ (h:=w_ (le (h:=w_ (b_ (h:=wo_nil (e_ (h:=aft_normal (?_))))))))))))))
 refine c_ (h1:=?_) (h2:=?_)
 rotate_right 1
 focus
  intro c1
  simp at c1;obtain rfl : i = n := (by omega);obtain rfl : r = mkI k i := (by rw [List.take_of_length_le (by omega),List.take_of_length_le (by simp)] at hi3;exact hi3)
  refine wc_exit (?_)
 rotate_right 1
 focus
  intro c1
  simp at c1;have hw := wrap_succ (i:=i) (by omega);obtain ⟨y,hy⟩ : ∃ y,r[i]? = some y := (List.getElem?_eq_some_iff.2 ⟨by omega,rfl⟩ |> fun h => ⟨_,h⟩);have g2 : (ints r)[i]? = some (.int .i64 y) := (by simp [ints,hy]);have hw2 : IntKind.i64.wrap (k + (i : Int) + 1) = k + ((i + 1 : Nat) : Int) := (wrap_id (by omega) (by omega)).trans (by omega)
  refine wc_skip (?_)
 all_goals first
 | refine aft_exit ?_
 | (
  refine aft_normal ?_
  refine wa_ (wc_block (wa_ (wc_region (w_ (m_ (h:=w_ (m_ (h:=w_ (m_ (h:=w_ (x_ (h:=w0 (s_ (h:=wo_nil (e_ (h:=aft_normal (wc_region (?_))))))))))))))))))
  refine w_ (m_ (h:=w_ (b_ (h:=w_ (a_ (h:=wo_nil (e_ (h:=blk_normal (aft_normal (wc_region (w_ (m_ (h:=w_ (b_ (h:=w_ (a_ (h:=wo_nil (e_ (h:=?_)))))))))))))))))))
  )
 all_goals first
 | (refine (ih ((i + 1,r.set i (k + i))) (⟨by simp;omega,by simpa using hi2,set_take hi3 (by simpa using hi2) (mkI_at (by omega))⟩) ?_ _ ?_).trans ?_;(focus (first | omega | (simp;done) | (simp;omega)));(focus (simp [normE,hw,hw2];done));(focus (rfl)))
 | (apply end_leaf (ex:=(Ext.exit 0)) 2 (some [1]);(focus (simp [normE];rfl));(focus (simp)))
theorem mk_I (k : Int) (l : List Int) (hk : 0 ≤ k) (hb : k + (l.length : Nat) < 1000000000000000000) : oc.call 82 [.iol 1 (ints l),.int .i64 k] = some (.int .i64 (k + l.length),[.lst true 1 (ints (mkI k l.length))]) := by
 refine fun_s rfl cd82 rfl rfl rfl (by simp;rfl) (by simp;rfl) ?_
 refine wa_ (wc_region (w_ (a_ (h:=wo_nil (e_ (h:=aft_normal (wa_ (wa_ (wc_region (w_ (a_ (h:=wo_nil (e_ (h:=aft_normal (wc_block (?_))))))))))))))))
 refine wc_loop (l_mk_I k l.length hk hb (0,l) (by simp) _ (by simp [normE])) ?_
 refine blk_exit (aft_normal (wa_ (wc_region (w_ (m_ (h:=w_ (a_ (h:=wo_nil (e_ (h:=aft_normal (wc_ret (?_))))))))))))
 all_goals (refine fin_ (hr:=(res_tmp rfl res_nil)) (h:=?_);(focus (first | (simp_all;done) | (simp_all <;> omega) | (simp_all <;> split <;> simp_all <;> omega))))
theorem l_held_I (k : Int) (n : Nat) (hk : 0 ≤ k) (hb : k + n < 1000000000000000000) : ∀ i : Nat,(i ≤ n) → ∀ s,normE 2 (some [0,1,5]) s = ⟨[(0,.lst false 0 (ints (mkI k n))),(1,.int .i64 (k + i)),(5,.int .i64 i)],[],2⟩ →
 oc.loop 181 2 s = some (.exit 0,⟨[(1,.int .i64 (k + n))],[],2⟩) := by
 refine loop_ind (σ:=Nat) (fun i => n - i) _ (fun i => ⟨[(0,.lst false 0 (ints (mkI k n))),(1,.int .i64 (k + i)),(5,.int .i64 i)],[],2⟩) _ ?_
 intro i hi ih s hs
 refine loop_s cd181 rfl rfl hs ?_
 refine wa_ (wa_ (wc_region (w_ (m_ (h:=w_ (m_ (h:=w_ (le (h:=w_ (b_ (h:=wo_nil (e_ (h:=aft_normal (?_))))))))))))))
 refine c_ (h1:=?_) (h2:=?_)
 rotate_right 1
 focus
  intro c1
  first
  | exact dn c1
  | (
   have d1 := c1;try simp at d1
   refine wc_exit (?_)
   )
 rotate_right 1
 focus
  intro c1
  first
  | exact dn c1
  | (
   have d1 := c1;try simp at d1
   have hw := wrap_succ (i:=i) (by omega);have g2 : (ints (mkI k n))[i]? = some (.int .i64 (k + i)) := (by simp [ints,mkI_at (show i < n by simpa using d1)]);have hw2 : IntKind.i64.wrap (k + (i : Int) + 1) = k + ((i + 1 : Nat) : Int) := (wrap_id (by omega) (by omega)).trans (by omega)
   refine wc_skip (?_)
   )
 all_goals first
 | refine aft_exit ?_
 | (
  refine aft_normal ?_
  refine wa_ (wc_block (wa_ (wa_ (wc_region (w_ (m_ (h:=w_ (m_ (h:=w_ (x_ (h:=w_ (l_ (h:=w_ (m_ (h:=w_ (bE (h:=wo_nil (e_ (h:=?_)))))))))))))))))))
  refine aft_normal (?_)
  refine c_ (h1:=?_) (h2:=?_)
  rotate_right 1
  focus
   intro c2
   first
   | exact dn c2
   | (
    have d2 := c2;try simp at d2
    refine wc_skip (?_)
    )
  rotate_right 1
  focus
   intro c2
   first
   | exact dn c2
   | (
    have d2 := c2;try simp at d2
    refine wa_ (wc_region (w_ (a_ (h:=wo_nil (e_ (h:=aft_normal (wc_ret (?_))))))))
    )
  all_goals first
  | refine aft_ret ?_
  | (
   refine aft_normal ?_
   refine wc_region (w_ (m_ (h:=w_ (b_ (h:=w_ (a_ (h:=wo_nil (e_ (h:=?_)))))))))
   )
  all_goals first | refine blk_normal ?_ | refine blk_ret ?_
  all_goals first
  | refine aft_ret ?_
  | (
   refine aft_normal ?_
   refine wc_region (w_ (m_ (h:=w_ (b_ (h:=w_ (a_ (h:=wo_nil (e_ (h:=?_)))))))))
   )
  )
 all_goals first
 | (refine (ih (i + 1) (by omega) ?_ _ ?_).trans ?_;(focus (first | omega | (simp;done) | (simp;omega)));(focus (simp [normE,hw,hw2];done));(focus (rfl)))
 | (apply end_leaf (ex:=(Ext.exit 0)) 2 (some [1,4]);(focus (simp [normE];rfl));(focus (simp;omega)))
theorem held_I (k : Int) (n : Nat) (hk : 0 ≤ k) (hb : k + n < 1000000000000000000) : oc.call 181 [.lst false 0 (ints (mkI k n)),.int .i64 k] = some (.int .i64 (k + n),[]) := by
 refine fun_s rfl cd181 rfl rfl rfl (by simp;rfl) (by simp;rfl) ?_
 refine wa_ (wc_region (w_ (a_ (h:=wo_nil (e_ (h:=aft_normal (wa_ (wa_ (wc_region (w_ (a_ (h:=wo_nil (e_ (h:=aft_normal (wc_block (?_))))))))))))))))
 refine wc_loop (l_held_I k n hk hb 0 (by omega) _ (by simp [normE])) ?_
 first | refine blk_ret ?_ | refine blk_exit ?_
 all_goals first
 | refine aft_ret ?_
 | (
  refine aft_normal ?_
  refine wa_ (wc_region (w_ (m_ (h:=w_ (a_ (h:=wo_nil (e_ (h:=aft_normal (wc_ret (?_))))))))))
  )
 all_goals (refine fin_ (hr:=(res_tmp rfl res_nil)) (h:=?_);(focus (first | (simp_all;done) | (simp_all <;> omega) | (simp_all <;> split <;> simp_all <;> omega))))
def cn_Ct (x : Ct) : Nat := 1 + 1 + 1
theorem cn_Ct_pos (x : Ct) : 1 ≤ cn_Ct x := by unfold cn_Ct;omega
def cn_Cts (l : List Ct) : Nat := wS cn_Ct l
theorem cn_Cts_len {l : List Ct} : l.length ≤ cn_Cts l := wS_len cn_Ct_pos
def mk_Ct (k : Int) (x : Ct) : Ct := ⟨k,k + 1,k + 1 + 1⟩
@[simp] theorem mk_Ct_pl (k : Int) (x : Ct) : (mk_Ct k x).pl = k := rfl
@[simp] theorem mk_Ct_ep (k : Int) (x : Ct) : (mk_Ct k x).ep = k + 1 := rfl
@[simp] theorem mk_Ct_n (k : Int) (x : Ct) : (mk_Ct k x).n = k + 1 + 1 := rfl
def mk_Cts (k : Int) : List Ct → List Ct
  | [] => []
  | x :: r => mk_Ct k x :: mk_Cts (k + (cn_Ct x : Nat)) r
@[simp] theorem mk_Cts_len {k : Int} {l : List Ct} : (mk_Cts k l).length = l.length := by
  induction l generalizing k with
  | nil => rfl
  | cons x r ih => simp [mk_Cts,ih]
@[simp] theorem mk_Cts_take {k : Int} {l : List Ct} : (mk_Cts k l).take l.length = mk_Cts k l := List.take_of_length_le (by simp)
theorem mk_Cts_at {k : Int} {l : List Ct} {i : Nat} {x : Ct} (h : l[i]? = some x) : (mk_Cts k l)[i]? = some (mk_Ct (k + (cn_Cts (l.take i) : Nat)) x) := by
  induction l generalizing k i with
  | nil => simp at h
  | cons y r ih =>
    cases i with
    | zero => simp at h;subst h;simp [mk_Cts,cn_Cts]
    | succ i => simp at h;simp only [mk_Cts,List.getElem?_cons_succ,ih h,List.take_succ_cons,cn_Cts,wS_cons];congr 2;push_cast;omega
@[simp] theorem alike_cts (a b : List Ct) : V.alikeL (cts a) (cts b) = decide (a.length = b.length) := alikeL_map (fun _ _ => rfl)
theorem l_mk_Cts (k : Int) (l : List Ct) (hk : 0 ≤ k) (hb : k + (cn_Cts l : Nat) < 1000000000000000000) : ∀ x : Nat × (List Ct),(x.1 ≤ l.length ∧ x.2.length = l.length ∧ x.2.take x.1 = (mk_Cts k l).take x.1 ∧ x.2.drop x.1 = l.drop x.1) → ∀ s,normE 2 (some [0,1,5]) s = ⟨[(0,.ref 0 0 l.length),(1,.int .i64 (k + (cn_Cts (l.take x.1) : Nat))),(5,.int .i64 x.1)],[(0,⟨false,true,3,cts x.2,0⟩)],2⟩ →
 oc.loop 60 2 s = some (.exit 0,⟨[(1,.int .i64 (k + (cn_Cts l : Nat)))],[(0,⟨false,true,3,cts (mk_Cts k l),0⟩)],2⟩) := by
 refine loop_ind (σ:=Nat × (List Ct)) (fun x => l.length - x.1) _ (fun x => ⟨[(0,.ref 0 0 l.length),(1,.int .i64 (k + (cn_Cts (l.take x.1) : Nat))),(5,.int .i64 x.1)],[(0,⟨false,true,3,cts x.2,0⟩)],2⟩) _ ?_
 rintro ⟨i,r⟩ hi ih s hs
 simp only at hi
 refine loop_s cd60 rfl rfl hs ?_
 obtain ⟨hi1,hi2,hi3,hi4⟩ := hi
 have hlen := cn_Cts_len (l:=l)
 refine wa_ (wa_ (wc_region (w_ (m_ (h:=w_ (m_ (h:=w_ (le (h:=w_ (b_ (h:=wo_nil (e_ (h:=aft_normal (?_))))))))))))))
 refine c_ (h1:=?_) (h2:=?_)
 rotate_right 1
 focus
  intro c1
  simp at c1;obtain rfl : i = l.length := (by omega);obtain rfl : r = mk_Cts k l := (by rw [List.take_of_length_le (by omega),List.take_of_length_le (by simp)] at hi3;exact hi3)
  refine wc_exit (?_)
 rotate_right 1
 focus
  intro c1
  simp at c1;have hw := wrap_succ (i:=i) (by omega);obtain ⟨y,hx,_,_⟩ := cts_cut (l:=l) (i:=i) c1;have hy : r[i]? = some y := (by have := congrArg (fun q => q[0]?) hi4;simpa [hx] using this);have g2 : (cts r)[i]? = some (Ct.v (y)) := (by simp [cts,hy]);have hcut := wS_cut (f:=cn_Ct) hx;have hle := wS_take (f:=cn_Ct) (l:=l) (i:=i + 1);have hcy : cn_Ct y = 1 + 1 + 1 := rfl;change cn_Cts (l.take (i + 1)) = cn_Cts (l.take i) + cn_Ct y at hcut;change cn_Cts (l.take (i + 1)) ≤ cn_Cts l at hle;have hw0 : IntKind.i64.wrap (k + (cn_Cts (l.take i) : Nat) + 1) = k + (cn_Cts (l.take i) : Nat) + 1 := wrap_id (by omega) (by omega);have hw1 : IntKind.i64.wrap (k + (cn_Cts (l.take i) : Nat) + 1 + 1) = k + (cn_Cts (l.take i) : Nat) + 1 + 1 := wrap_id (by omega) (by omega);have hw2 : IntKind.i64.wrap (k + (cn_Cts (l.take i) : Nat) + 1 + 1 + 1) = k + ((cn_Cts (l.take (i + 1)) : Nat) : Int) := (by rw [hcut];exact (wrap_id (by omega) (by omega)).trans (by omega))
  refine wc_skip (?_)
 all_goals first
 | refine aft_exit ?_
 | (
  refine aft_normal ?_
  refine wa_ (wc_block (wa_ (wc_region (w_ (m_ (h:=w_ (m_ (h:=w_ (m_ (h:=w_ (x_ (h:=w_ (f_ (h:=w0 (s_ (h:=wo_nil (e_ (h:=aft_normal (?_)))))))))))))))))))
  refine wa_ (wc_region (w_ (m_ (h:=w_ (b_ (h:=w_ (a_ (h:=wo_nil (e_ (h:=aft_normal (wa_ (wc_region (w_ (m_ (h:=w_ (m_ (h:=w_ (m_ (h:=?_)))))))))))))))))))
  refine w_ (x_ (h:=w_ (f_ (h:=w0 (s_ (h:=wo_nil (e_ (h:=aft_normal (wa_ (wc_region (w_ (m_ (h:=w_ (b_ (h:=w_ (a_ (h:=wo_nil (e_ (h:=aft_normal (?_))))))))))))))))))))
  refine wa_ (wc_region (w_ (m_ (h:=w_ (m_ (h:=w_ (m_ (h:=w_ (x_ (h:=w_ (f_ (h:=w0 (s_ (h:=wo_nil (e_ (h:=aft_normal (wc_region (w_ (m_ (h:=?_))))))))))))))))))))
  refine w_ (b_ (h:=w_ (a_ (h:=wo_nil (e_ (h:=blk_normal (aft_normal (wc_region (w_ (m_ (h:=w_ (b_ (h:=w_ (a_ (h:=wo_nil (e_ (h:=?_)))))))))))))))))
  )
 all_goals first
 | (refine (ih ((i + 1,r.set i (mk_Ct (k + (cn_Cts (l.take i) : Nat)) y))) (⟨by simp;omega,by simpa using hi2,set_take hi3 (by simpa using hi2) (mk_Cts_at hx),set_drop hi4⟩) ?_ _ ?_).trans ?_;(focus (first | omega | (simp;done) | (simp;omega)));(focus (simp [normE,hw,hw0,hw1,hw2,mk_Ct];done));(focus (rfl)))
 | (apply end_leaf (ex:=(Ext.exit 0)) 2 (some [1]);(focus (simp [normE];rfl));(focus (simp)))
theorem mkf_Cts (k : Int) (l : List Ct) (hk : 0 ≤ k) (hb : k + (cn_Cts l : Nat) < 1000000000000000000) : oc.call 60 [.iol 3 (cts l),.int .i64 k] = some (.int .i64 (k + (cn_Cts l : Nat)),[.lst true 3 (cts (mk_Cts k l))]) := by
 refine fun_s rfl cd60 rfl rfl rfl (by simp;rfl) (by simp;rfl) ?_
 refine wa_ (wc_region (w_ (a_ (h:=wo_nil (e_ (h:=aft_normal (wa_ (wa_ (wc_region (w_ (a_ (h:=wo_nil (e_ (h:=aft_normal (wc_block (?_))))))))))))))))
 refine wc_loop (l_mk_Cts k l hk hb (0,l) (by simp) _ (by simp [normE,cn_Cts])) ?_
 refine blk_exit (aft_normal (wa_ (wc_region (w_ (m_ (h:=w_ (a_ (h:=wo_nil (e_ (h:=aft_normal (wc_ret (?_))))))))))))
 all_goals (refine fin_ (hr:=(res_tmp rfl res_nil)) (h:=?_);(focus (first | (simp_all;done) | (simp_all <;> omega) | (simp_all <;> split <;> simp_all <;> omega))))
theorem l_held_Cts (k : Int) (l : List Ct) (hk : 0 ≤ k) (hb : k + (cn_Cts l : Nat) < 1000000000000000000) : ∀ i : Nat,(i ≤ l.length) → ∀ s,normE 2 (some [0,1,5]) s = ⟨[(0,.lst false 0 (cts (mk_Cts k l))),(1,.int .i64 (k + (cn_Cts (l.take i) : Nat))),(5,.int .i64 i)],[],2⟩ →
 oc.loop 135 2 s = some (.exit 0,⟨[(1,.int .i64 (k + (cn_Cts l : Nat)))],[],2⟩) := by
 refine loop_ind (σ:=Nat) (fun i => l.length - i) _ (fun i => ⟨[(0,.lst false 0 (cts (mk_Cts k l))),(1,.int .i64 (k + (cn_Cts (l.take i) : Nat))),(5,.int .i64 i)],[],2⟩) _ ?_
 intro i hi ih s hs
 refine loop_s cd135 rfl rfl hs ?_
 have hlen := cn_Cts_len (l:=l)
 refine wa_ (wa_ (wc_region (w_ (m_ (h:=w_ (m_ (h:=w_ (le (h:=w_ (b_ (h:=wo_nil (e_ (h:=aft_normal (?_))))))))))))))
 refine c_ (h1:=?_) (h2:=?_)
 rotate_right 1
 focus
  intro c1
  first
  | exact dn c1
  | (
   have d1 := c1;try simp at d1
   obtain rfl : i = l.length := (by omega)
   refine wc_exit (?_)
   )
 rotate_right 1
 focus
  intro c1
  first
  | exact dn c1
  | (
   have d1 := c1;try simp at d1
   have hc1 : i < l.length := (by simpa using d1);have hw := wrap_succ (i:=i) (by omega);obtain ⟨y,hx,_,_⟩ := cts_cut (l:=l) (i:=i) hc1;have g2 : (cts (mk_Cts k l))[i]? = some (Ct.v (mk_Ct (k + (cn_Cts (l.take i) : Nat)) y)) := (by simp [cts,mk_Cts_at hx]);have hcut := wS_cut (f:=cn_Ct) hx;have hle := wS_take (f:=cn_Ct) (l:=l) (i:=i + 1);have hcy : cn_Ct y = 1 + 1 + 1 := rfl;change cn_Cts (l.take (i + 1)) = cn_Cts (l.take i) + cn_Ct y at hcut;change cn_Cts (l.take (i + 1)) ≤ cn_Cts l at hle;have hw0 : IntKind.i64.wrap (k + (cn_Cts (l.take i) : Nat) + 1) = k + (cn_Cts (l.take i) : Nat) + 1 := wrap_id (by omega) (by omega);have hw1 : IntKind.i64.wrap (k + (cn_Cts (l.take i) : Nat) + 1 + 1) = k + (cn_Cts (l.take i) : Nat) + 1 + 1 := wrap_id (by omega) (by omega);have hw2 : IntKind.i64.wrap (k + (cn_Cts (l.take i) : Nat) + 1 + 1 + 1) = k + ((cn_Cts (l.take (i + 1)) : Nat) : Int) := (by rw [hcut];exact (wrap_id (by omega) (by omega)).trans (by omega))
   refine wc_skip (?_)
   )
 all_goals first
 | refine aft_exit ?_
 | (
  refine aft_normal ?_
  refine wa_ (wc_block (wa_ (wa_ (wc_region (w_ (m_ (h:=w_ (m_ (h:=w_ (x_ (h:=w_ (f_ (h:=w_ (l_ (h:=w_ (m_ (h:=w_ (bE (h:=?_)))))))))))))))))))
  refine wo_nil (e_ (h:=aft_normal (?_)))
  refine c_ (h1:=?_) (h2:=?_)
  rotate_right 1
  focus
   intro c2
   first
   | exact dn c2
   | (
    have d2 := c2;try simp at d2
    refine wc_skip (?_)
    )
  rotate_right 1
  focus
   intro c2
   first
   | exact dn c2
   | (
    have d2 := c2;try simp at d2
    refine wa_ (wc_region (w_ (a_ (h:=wo_nil (e_ (h:=aft_normal (wc_ret (?_))))))))
    )
  all_goals first
  | refine aft_ret ?_
  | (
   refine aft_normal ?_
   refine wa_ (wc_region (w_ (m_ (h:=w_ (b_ (h:=w_ (a_ (h:=wo_nil (e_ (h:=aft_normal (wa_ (wa_ (wc_region (w_ (m_ (h:=w_ (m_ (h:=?_))))))))))))))))))
   refine w_ (x_ (h:=w_ (f_ (h:=w_ (l_ (h:=w_ (m_ (h:=w_ (bE (h:=wo_nil (e_ (h:=aft_normal (?_)))))))))))))
   refine c_ (h1:=?_) (h2:=?_)
   rotate_right 1
   focus
    intro c3
    first
    | exact dn c3
    | (
     have d3 := c3;try simp at d3
     refine wc_skip (?_)
     )
   rotate_right 1
   focus
    intro c3
    first
    | exact dn c3
    | (
     have d3 := c3;try simp at d3
     refine wa_ (wc_region (w_ (a_ (h:=wo_nil (e_ (h:=aft_normal (wc_ret (?_))))))))
     )
   all_goals first
   | refine aft_ret ?_
   | (
    refine aft_normal ?_
    refine wa_ (wc_region (w_ (m_ (h:=w_ (b_ (h:=w_ (a_ (h:=wo_nil (e_ (h:=aft_normal (wa_ (wa_ (wc_region (w_ (m_ (h:=w_ (m_ (h:=?_))))))))))))))))))
    refine w_ (x_ (h:=w_ (f_ (h:=w_ (l_ (h:=w_ (m_ (h:=w_ (bE (h:=wo_nil (e_ (h:=aft_normal (?_)))))))))))))
    refine c_ (h1:=?_) (h2:=?_)
    rotate_right 1
    focus
     intro c4
     first
     | exact dn c4
     | (
      have d4 := c4;try simp at d4
      refine wc_skip (?_)
      )
    rotate_right 1
    focus
     intro c4
     first
     | exact dn c4
     | (
      have d4 := c4;try simp at d4
      refine wa_ (wc_region (w_ (a_ (h:=wo_nil (e_ (h:=aft_normal (wc_ret (?_))))))))
      )
    all_goals first
    | refine aft_ret ?_
    | (
     refine aft_normal ?_
     refine wc_region (w_ (m_ (h:=w_ (b_ (h:=w_ (a_ (h:=wo_nil (e_ (h:=?_)))))))))
     )
    )
   )
  all_goals first | refine blk_normal ?_ | refine blk_ret ?_
  all_goals first
  | refine aft_ret ?_
  | (
   refine aft_normal ?_
   refine wc_region (w_ (m_ (h:=w_ (b_ (h:=w_ (a_ (h:=wo_nil (e_ (h:=?_)))))))))
   )
  )
 all_goals first
 | (refine (ih (i + 1) (by omega) ?_ _ ?_).trans ?_;(focus (first | omega | (simp;done) | (simp;omega)));(focus (simp [normE,hw,hw0,hw1,hw2];done));(focus (rfl)))
 | (apply end_leaf (ex:=(Ext.exit 0)) 2 (some [1,4]);(focus (simp [normE];rfl));(focus (simp)))
 | (apply end_leaf (ex:=Ext.ret) 2 (some [1,4]);(focus (simp [normE];rfl));(focus (exfalso;clear ih hs hw;simp only [hw0,hw1] at *;simp at *)))
theorem held_Cts (k : Int) (l : List Ct) (hk : 0 ≤ k) (hb : k + (cn_Cts l : Nat) < 1000000000000000000) : oc.call 135 [.lst false 0 (cts (mk_Cts k l)),.int .i64 k] = some (.int .i64 (k + (cn_Cts l : Nat)),[]) := by
 refine fun_s rfl cd135 rfl rfl rfl (by simp;rfl) (by simp;rfl) ?_
 refine wa_ (wc_region (w_ (a_ (h:=wo_nil (e_ (h:=aft_normal (wa_ (wa_ (wc_region (w_ (a_ (h:=wo_nil (e_ (h:=aft_normal (wc_block (?_))))))))))))))))
 refine wc_loop (l_held_Cts k l hk hb 0 (by omega) _ (by simp [normE,cn_Cts])) ?_
 first | refine blk_ret ?_ | refine blk_exit ?_
 all_goals first
 | refine aft_ret ?_
 | (
  refine aft_normal ?_
  refine wa_ (wc_region (w_ (m_ (h:=w_ (a_ (h:=wo_nil (e_ (h:=aft_normal (wc_ret (?_))))))))))
  )
 all_goals (refine fin_ (hr:=(res_tmp rfl res_nil)) (h:=?_);(focus (first | (simp_all;done) | (simp_all <;> omega) | (simp_all <;> split <;> simp_all <;> omega))))
def cn_Nd (x : Nd) : Nat := 1 + 1 + 1 + 1 + 1 + 1 + x.cells.length
theorem cn_Nd_pos (x : Nd) : 1 ≤ cn_Nd x := by unfold cn_Nd;omega
def cn_Nds (l : List Nd) : Nat := wS cn_Nd l
theorem cn_Nds_len {l : List Nd} : l.length ≤ cn_Nds l := wS_len cn_Nd_pos
def mk_Nd (k : Int) (x : Nd) : Nd := ⟨k,k + 1,k + 1 + 1,k + 1 + 1 + 1,k + 1 + 1 + 1 + 1,k + 1 + 1 + 1 + 1 + 1,mkI (k + 1 + 1 + 1 + 1 + 1 + 1) x.cells.length⟩
@[simp] theorem mk_Nd_op (k : Int) (x : Nd) : (mk_Nd k x).op = k := rfl
@[simp] theorem mk_Nd_a (k : Int) (x : Nd) : (mk_Nd k x).a = k + 1 := rfl
@[simp] theorem mk_Nd_b (k : Int) (x : Nd) : (mk_Nd k x).b = k + 1 + 1 := rfl
@[simp] theorem mk_Nd_col (k : Int) (x : Nd) : (mk_Nd k x).col = k + 1 + 1 + 1 := rfl
@[simp] theorem mk_Nd_test (k : Int) (x : Nd) : (mk_Nd k x).test = k + 1 + 1 + 1 + 1 := rfl
@[simp] theorem mk_Nd_value (k : Int) (x : Nd) : (mk_Nd k x).value = k + 1 + 1 + 1 + 1 + 1 := rfl
@[simp] theorem mk_Nd_cells (k : Int) (x : Nd) : (mk_Nd k x).cells = mkI (k + 1 + 1 + 1 + 1 + 1 + 1) x.cells.length := rfl
def mk_Nds (k : Int) : List Nd → List Nd
  | [] => []
  | x :: r => mk_Nd k x :: mk_Nds (k + (cn_Nd x : Nat)) r
@[simp] theorem mk_Nds_len {k : Int} {l : List Nd} : (mk_Nds k l).length = l.length := by
  induction l generalizing k with
  | nil => rfl
  | cons x r ih => simp [mk_Nds,ih]
@[simp] theorem mk_Nds_take {k : Int} {l : List Nd} : (mk_Nds k l).take l.length = mk_Nds k l := List.take_of_length_le (by simp)
theorem mk_Nds_at {k : Int} {l : List Nd} {i : Nat} {x : Nd} (h : l[i]? = some x) : (mk_Nds k l)[i]? = some (mk_Nd (k + (cn_Nds (l.take i) : Nat)) x) := by
  induction l generalizing k i with
  | nil => simp at h
  | cons y r ih =>
    cases i with
    | zero => simp at h;subst h;simp [mk_Nds,cn_Nds]
    | succ i => simp at h;simp only [mk_Nds,List.getElem?_cons_succ,ih h,List.take_succ_cons,cn_Nds,wS_cons];congr 2;push_cast;omega
@[simp] theorem alike_nds (t u : Bool) (s z : Nat) (a b : List Nd) : V.alikeL (nds t s a) (nds u z b) = decide (a.length = b.length) := alikeL_map (fun _ _ => rfl)
theorem l_mk_Nds (k : Int) (l : List Nd) (hk : 0 ≤ k) (hb : k + (cn_Nds l : Nat) < 1000000000000000000) : ∀ x : Nat × (List Nd),(x.1 ≤ l.length ∧ x.2.length = l.length ∧ x.2.take x.1 = (mk_Nds k l).take x.1 ∧ x.2.drop x.1 = l.drop x.1) → ∀ s,normE 2 (some [0,1,5]) s = ⟨[(0,.ref 0 0 l.length),(1,.int .i64 (k + (cn_Nds (l.take x.1) : Nat))),(5,.int .i64 x.1)],[(0,⟨false,true,7,nds true 1 x.2,0⟩)],2⟩ →
 oc.loop 48 2 s = some (.exit 0,⟨[(1,.int .i64 (k + (cn_Nds l : Nat)))],[(0,⟨false,true,7,nds true 1 (mk_Nds k l),0⟩)],2⟩) := by
 refine loop_ind (σ:=Nat × (List Nd)) (fun x => l.length - x.1) _ (fun x => ⟨[(0,.ref 0 0 l.length),(1,.int .i64 (k + (cn_Nds (l.take x.1) : Nat))),(5,.int .i64 x.1)],[(0,⟨false,true,7,nds true 1 x.2,0⟩)],2⟩) _ ?_
 rintro ⟨i,r⟩ hi ih s hs
 simp only at hi
 refine loop_s cd48 rfl rfl hs ?_
 obtain ⟨hi1,hi2,hi3,hi4⟩ := hi
 have hlen := cn_Nds_len (l:=l)
 refine wa_ (wa_ (wc_region (w_ (m_ (h:=w_ (m_ (h:=w_ (le (h:=w_ (b_ (h:=wo_nil (e_ (h:=aft_normal (?_))))))))))))))
 refine c_ (h1:=?_) (h2:=?_)
 rotate_right 1
 focus
  intro c1
  simp at c1;obtain rfl : i = l.length := (by omega);obtain rfl : r = mk_Nds k l := (by rw [List.take_of_length_le (by omega),List.take_of_length_le (by simp)] at hi3;exact hi3)
  refine wc_exit (?_)
 rotate_right 1
 focus
  intro c1
  simp at c1;have hw := wrap_succ (i:=i) (by omega);obtain ⟨y,hx,_,_⟩ := nds_cut (t:=false) (s:=0) (l:=l) (i:=i) c1;have hy : r[i]? = some y := (by have := congrArg (fun q => q[0]?) hi4;simpa [hx] using this);have g2 : (nds true 1 r)[i]? = some (Nd.v true 1 (y)) := (by simp [nds,hy]);have hcut := wS_cut (f:=cn_Nd) hx;have hle := wS_take (f:=cn_Nd) (l:=l) (i:=i + 1);have hcy : cn_Nd y = 1 + 1 + 1 + 1 + 1 + 1 + y.cells.length := rfl;change cn_Nds (l.take (i + 1)) = cn_Nds (l.take i) + cn_Nd y at hcut;change cn_Nds (l.take (i + 1)) ≤ cn_Nds l at hle;have hw0 : IntKind.i64.wrap (k + (cn_Nds (l.take i) : Nat) + 1) = k + (cn_Nds (l.take i) : Nat) + 1 := wrap_id (by omega) (by omega);have hw1 : IntKind.i64.wrap (k + (cn_Nds (l.take i) : Nat) + 1 + 1) = k + (cn_Nds (l.take i) : Nat) + 1 + 1 := wrap_id (by omega) (by omega);have hw2 : IntKind.i64.wrap (k + (cn_Nds (l.take i) : Nat) + 1 + 1 + 1) = k + (cn_Nds (l.take i) : Nat) + 1 + 1 + 1 := wrap_id (by omega) (by omega);have hw3 : IntKind.i64.wrap (k + (cn_Nds (l.take i) : Nat) + 1 + 1 + 1 + 1) = k + (cn_Nds (l.take i) : Nat) + 1 + 1 + 1 + 1 := wrap_id (by omega) (by omega);have hw4 : IntKind.i64.wrap (k + (cn_Nds (l.take i) : Nat) + 1 + 1 + 1 + 1 + 1) = k + (cn_Nds (l.take i) : Nat) + 1 + 1 + 1 + 1 + 1 := wrap_id (by omega) (by omega);have hw5 : IntKind.i64.wrap (k + (cn_Nds (l.take i) : Nat) + 1 + 1 + 1 + 1 + 1 + 1) = k + (cn_Nds (l.take i) : Nat) + 1 + 1 + 1 + 1 + 1 + 1 := wrap_id (by omega) (by omega);have hw6 : k + (cn_Nds (l.take i) : Nat) + 1 + 1 + 1 + 1 + 1 + 1 + (y.cells.length : Nat) = k + ((cn_Nds (l.take (i + 1)) : Nat) : Int) := (by rw [hcut];omega)
  refine wc_skip (?_)
 all_goals first
 | refine aft_exit ?_
 | (
  refine aft_normal ?_
  refine wa_ (wc_block (wa_ (wc_region (w_ (m_ (h:=w_ (m_ (h:=w_ (m_ (h:=w_ (x_ (h:=w_ (f_ (h:=w0 (s_ (h:=wo_nil (e_ (h:=aft_normal (?_)))))))))))))))))))
  refine wa_ (wc_region (w_ (m_ (h:=w_ (b_ (h:=w_ (a_ (h:=wo_nil (e_ (h:=aft_normal (wa_ (wc_region (w_ (m_ (h:=w_ (m_ (h:=w_ (m_ (h:=?_)))))))))))))))))))
  refine w_ (x_ (h:=w_ (f_ (h:=w0 (s_ (h:=wo_nil (e_ (h:=aft_normal (wa_ (wc_region (w_ (m_ (h:=w_ (b_ (h:=w_ (a_ (h:=wo_nil (e_ (h:=aft_normal (?_))))))))))))))))))))
  refine wa_ (wc_region (w_ (m_ (h:=w_ (m_ (h:=w_ (m_ (h:=w_ (x_ (h:=w_ (f_ (h:=w0 (s_ (h:=wo_nil (e_ (h:=aft_normal (wa_ (wc_region (?_)))))))))))))))))))
  refine w_ (m_ (h:=w_ (b_ (h:=w_ (a_ (h:=wo_nil (e_ (h:=aft_normal (wa_ (wc_region (w_ (m_ (h:=w_ (m_ (h:=w_ (m_ (h:=w_ (x_ (h:=w_ (f_ (h:=?_)))))))))))))))))))))
  refine w0 (s_ (h:=wo_nil (e_ (h:=aft_normal (wa_ (wc_region (w_ (m_ (h:=w_ (b_ (h:=w_ (a_ (h:=wo_nil (e_ (h:=aft_normal (wa_ (wc_region (?_))))))))))))))))))
  refine w_ (m_ (h:=w_ (m_ (h:=w_ (m_ (h:=w_ (x_ (h:=w_ (f_ (h:=w0 (s_ (h:=wo_nil (e_ (h:=aft_normal (wa_ (wc_region (w_ (m_ (h:=w_ (b_ (h:=?_)))))))))))))))))))))
  refine w_ (a_ (h:=wo_nil (e_ (h:=aft_normal (wa_ (wc_region (w_ (m_ (h:=w_ (m_ (h:=w_ (m_ (h:=w_ (x_ (h:=w_ (f_ (h:=w0 (s_ (h:=wo_nil (e_ (h:=?_)))))))))))))))))))))
  refine aft_normal (wa_ (wc_region (w_ (m_ (h:=w_ (b_ (h:=w_ (a_ (h:=wo_nil (e_ (h:=aft_normal (wc_region (w_ (m_ (h:=w_ (m_ (h:=w_ (x_ (h:=?_)))))))))))))))))))
  refine w_ (f_ (h:=w_ (l_ (h:=w_ (m_ (h:=?_))))))
  first | refine ip (hc:=(by (try simp only [hw0,hw1,hw2,hw3,hw4,hw5,hw6]);exact mk_I (k + (cn_Nds (l.take i) : Nat) + 1 + 1 + 1 + 1 + 1 + 1) y.cells (by omega) (by omega))) (h:=?_) | refine iq (hc:=(by (try simp only [hw0,hw1,hw2,hw3,hw4,hw5,hw6]);exact mk_I (k + (cn_Nds (l.take i) : Nat) + 1 + 1 + 1 + 1 + 1 + 1) y.cells (by omega) (by omega))) (h:=?_)
  refine w_ (a_ (h:=wo_nil (e_ (h:=blk_normal (aft_normal (wc_region (w_ (m_ (h:=w_ (b_ (h:=w_ (a_ (h:=wo_nil (e_ (h:=?_)))))))))))))))
  )
 all_goals first
 | (refine (ih ((i + 1,r.set i (mk_Nd (k + (cn_Nds (l.take i) : Nat)) y))) (⟨by simp;omega,by simpa using hi2,set_take hi3 (by simpa using hi2) (mk_Nds_at hx),set_drop hi4⟩) ?_ _ ?_).trans ?_;(focus (first | omega | (simp;done) | (simp;omega)));(focus (simp [normE,hw,hw0,hw1,hw2,hw3,hw4,hw5,hw6,mk_Nd];done));(focus (rfl)))
 | (apply end_leaf (ex:=(Ext.exit 0)) 2 (some [1]);(focus (simp [normE];rfl));(focus (simp)))
theorem mkf_Nds (k : Int) (l : List Nd) (hk : 0 ≤ k) (hb : k + (cn_Nds l : Nat) < 1000000000000000000) : oc.call 48 [.iol 7 (nds true 1 l),.int .i64 k] = some (.int .i64 (k + (cn_Nds l : Nat)),[.lst true 7 (nds true 1 (mk_Nds k l))]) := by
 refine fun_s rfl cd48 rfl rfl rfl (by simp;rfl) (by simp;rfl) ?_
 refine wa_ (wc_region (w_ (a_ (h:=wo_nil (e_ (h:=aft_normal (wa_ (wa_ (wc_region (w_ (a_ (h:=wo_nil (e_ (h:=aft_normal (wc_block (?_))))))))))))))))
 refine wc_loop (l_mk_Nds k l hk hb (0,l) (by simp) _ (by simp [normE,cn_Nds])) ?_
 refine blk_exit (aft_normal (wa_ (wc_region (w_ (m_ (h:=w_ (a_ (h:=wo_nil (e_ (h:=aft_normal (wc_ret (?_))))))))))))
 all_goals (refine fin_ (hr:=(res_tmp rfl res_nil)) (h:=?_);(focus (first | (simp_all;done) | (simp_all <;> omega) | (simp_all <;> split <;> simp_all <;> omega))))
theorem l_held_Nds (k : Int) (l : List Nd) (hk : 0 ≤ k) (hb : k + (cn_Nds l : Nat) < 1000000000000000000) : ∀ i : Nat,(i ≤ l.length) → ∀ s,normE 2 (some [0,1,5]) s = ⟨[(0,.lst false 0 (nds false 0 (mk_Nds k l))),(1,.int .i64 (k + (cn_Nds (l.take i) : Nat))),(5,.int .i64 i)],[],2⟩ →
 oc.loop 216 2 s = some (.exit 0,⟨[(1,.int .i64 (k + (cn_Nds l : Nat)))],[],2⟩) := by
 refine loop_ind (σ:=Nat) (fun i => l.length - i) _ (fun i => ⟨[(0,.lst false 0 (nds false 0 (mk_Nds k l))),(1,.int .i64 (k + (cn_Nds (l.take i) : Nat))),(5,.int .i64 i)],[],2⟩) _ ?_
 intro i hi ih s hs
 refine loop_s cd216 rfl rfl hs ?_
 have hlen := cn_Nds_len (l:=l)
 refine wa_ (wa_ (wc_region (w_ (m_ (h:=w_ (m_ (h:=w_ (le (h:=w_ (b_ (h:=wo_nil (e_ (h:=aft_normal (?_))))))))))))))
 refine c_ (h1:=?_) (h2:=?_)
 rotate_right 1
 focus
  intro c1
  first
  | exact dn c1
  | (
   have d1 := c1;try simp at d1
   obtain rfl : i = l.length := (by omega)
   refine wc_exit (?_)
   )
 rotate_right 1
 focus
  intro c1
  first
  | exact dn c1
  | (
   have d1 := c1;try simp at d1
   have hc1 : i < l.length := (by simpa using d1);have hw := wrap_succ (i:=i) (by omega);obtain ⟨y,hx,_,_⟩ := nds_cut (t:=false) (s:=0) (l:=l) (i:=i) hc1;have g2 : (nds false 0 (mk_Nds k l))[i]? = some (Nd.v false 0 (mk_Nd (k + (cn_Nds (l.take i) : Nat)) y)) := (by simp [nds,mk_Nds_at hx]);have hcut := wS_cut (f:=cn_Nd) hx;have hle := wS_take (f:=cn_Nd) (l:=l) (i:=i + 1);have hcy : cn_Nd y = 1 + 1 + 1 + 1 + 1 + 1 + y.cells.length := rfl;change cn_Nds (l.take (i + 1)) = cn_Nds (l.take i) + cn_Nd y at hcut;change cn_Nds (l.take (i + 1)) ≤ cn_Nds l at hle;have hw0 : IntKind.i64.wrap (k + (cn_Nds (l.take i) : Nat) + 1) = k + (cn_Nds (l.take i) : Nat) + 1 := wrap_id (by omega) (by omega);have hw1 : IntKind.i64.wrap (k + (cn_Nds (l.take i) : Nat) + 1 + 1) = k + (cn_Nds (l.take i) : Nat) + 1 + 1 := wrap_id (by omega) (by omega);have hw2 : IntKind.i64.wrap (k + (cn_Nds (l.take i) : Nat) + 1 + 1 + 1) = k + (cn_Nds (l.take i) : Nat) + 1 + 1 + 1 := wrap_id (by omega) (by omega);have hw3 : IntKind.i64.wrap (k + (cn_Nds (l.take i) : Nat) + 1 + 1 + 1 + 1) = k + (cn_Nds (l.take i) : Nat) + 1 + 1 + 1 + 1 := wrap_id (by omega) (by omega);have hw4 : IntKind.i64.wrap (k + (cn_Nds (l.take i) : Nat) + 1 + 1 + 1 + 1 + 1) = k + (cn_Nds (l.take i) : Nat) + 1 + 1 + 1 + 1 + 1 := wrap_id (by omega) (by omega);have hw5 : IntKind.i64.wrap (k + (cn_Nds (l.take i) : Nat) + 1 + 1 + 1 + 1 + 1 + 1) = k + (cn_Nds (l.take i) : Nat) + 1 + 1 + 1 + 1 + 1 + 1 := wrap_id (by omega) (by omega);have hw6 : k + (cn_Nds (l.take i) : Nat) + 1 + 1 + 1 + 1 + 1 + 1 + (y.cells.length : Nat) = k + ((cn_Nds (l.take (i + 1)) : Nat) : Int) := (by rw [hcut];omega)
   refine wc_skip (?_)
   )
 all_goals first
 | refine aft_exit ?_
 | (
  refine aft_normal ?_
  refine wa_ (wc_block (wa_ (wa_ (wc_region (w_ (m_ (h:=w_ (m_ (h:=w_ (x_ (h:=w_ (f_ (h:=w_ (l_ (h:=w_ (m_ (h:=w_ (bE (h:=?_)))))))))))))))))))
  refine wo_nil (e_ (h:=aft_normal (?_)))
  refine c_ (h1:=?_) (h2:=?_)
  rotate_right 1
  focus
   intro c2
   first
   | exact dn c2
   | (
    have d2 := c2;try simp at d2
    refine wc_skip (?_)
    )
  rotate_right 1
  focus
   intro c2
   first
   | exact dn c2
   | (
    have d2 := c2;try simp at d2
    refine wa_ (wc_region (w_ (a_ (h:=wo_nil (e_ (h:=aft_normal (wc_ret (?_))))))))
    )
  all_goals first
  | refine aft_ret ?_
  | (
   refine aft_normal ?_
   refine wa_ (wc_region (w_ (m_ (h:=w_ (b_ (h:=w_ (a_ (h:=wo_nil (e_ (h:=aft_normal (wa_ (wa_ (wc_region (w_ (m_ (h:=w_ (m_ (h:=?_))))))))))))))))))
   refine w_ (x_ (h:=w_ (f_ (h:=w_ (l_ (h:=w_ (m_ (h:=w_ (bE (h:=wo_nil (e_ (h:=aft_normal (?_)))))))))))))
   refine c_ (h1:=?_) (h2:=?_)
   rotate_right 1
   focus
    intro c3
    first
    | exact dn c3
    | (
     have d3 := c3;try simp at d3
     refine wc_skip (?_)
     )
   rotate_right 1
   focus
    intro c3
    first
    | exact dn c3
    | (
     have d3 := c3;try simp at d3
     refine wa_ (wc_region (w_ (a_ (h:=wo_nil (e_ (h:=aft_normal (wc_ret (?_))))))))
     )
   all_goals first
   | refine aft_ret ?_
   | (
    refine aft_normal ?_
    refine wa_ (wc_region (w_ (m_ (h:=w_ (b_ (h:=w_ (a_ (h:=wo_nil (e_ (h:=aft_normal (wa_ (wa_ (wc_region (w_ (m_ (h:=w_ (m_ (h:=?_))))))))))))))))))
    refine w_ (x_ (h:=w_ (f_ (h:=w_ (l_ (h:=w_ (m_ (h:=w_ (bE (h:=wo_nil (e_ (h:=aft_normal (?_)))))))))))))
    refine c_ (h1:=?_) (h2:=?_)
    rotate_right 1
    focus
     intro c4
     first
     | exact dn c4
     | (
      have d4 := c4;try simp at d4
      refine wc_skip (?_)
      )
    rotate_right 1
    focus
     intro c4
     first
     | exact dn c4
     | (
      have d4 := c4;try simp at d4
      refine wa_ (wc_region (w_ (a_ (h:=wo_nil (e_ (h:=aft_normal (wc_ret (?_))))))))
      )
    all_goals first
    | refine aft_ret ?_
    | (
     refine aft_normal ?_
     refine wa_ (wc_region (w_ (m_ (h:=w_ (b_ (h:=w_ (a_ (h:=wo_nil (e_ (h:=aft_normal (wa_ (wa_ (wc_region (w_ (m_ (h:=w_ (m_ (h:=?_))))))))))))))))))
     refine w_ (x_ (h:=w_ (f_ (h:=w_ (l_ (h:=w_ (m_ (h:=w_ (bE (h:=wo_nil (e_ (h:=aft_normal (?_)))))))))))))
     refine c_ (h1:=?_) (h2:=?_)
     rotate_right 1
     focus
      intro c5
      first
      | exact dn c5
      | (
       have d5 := c5;try simp at d5
       refine wc_skip (?_)
       )
     rotate_right 1
     focus
      intro c5
      first
      | exact dn c5
      | (
       have d5 := c5;try simp at d5
       refine wa_ (wc_region (w_ (a_ (h:=wo_nil (e_ (h:=aft_normal (wc_ret (?_))))))))
       )
     all_goals first
     | refine aft_ret ?_
     | (
      refine aft_normal ?_
      refine wa_ (wc_region (w_ (m_ (h:=w_ (b_ (h:=w_ (a_ (h:=wo_nil (e_ (h:=aft_normal (wa_ (wa_ (wc_region (w_ (m_ (h:=w_ (m_ (h:=?_))))))))))))))))))
      refine w_ (x_ (h:=w_ (f_ (h:=w_ (l_ (h:=w_ (m_ (h:=w_ (bE (h:=wo_nil (e_ (h:=aft_normal (?_)))))))))))))
      refine c_ (h1:=?_) (h2:=?_)
      rotate_right 1
      focus
       intro c6
       first
       | exact dn c6
       | (
        have d6 := c6;try simp at d6
        refine wc_skip (?_)
        )
      rotate_right 1
      focus
       intro c6
       first
       | exact dn c6
       | (
        have d6 := c6;try simp at d6
        refine wa_ (wc_region (w_ (a_ (h:=wo_nil (e_ (h:=aft_normal (wc_ret (?_))))))))
        )
      all_goals first
      | refine aft_ret ?_
      | (
       refine aft_normal ?_
       refine wa_ (wc_region (w_ (m_ (h:=w_ (b_ (h:=w_ (a_ (h:=wo_nil (e_ (h:=aft_normal (wa_ (wa_ (wc_region (w_ (m_ (h:=w_ (m_ (h:=?_))))))))))))))))))
       refine w_ (x_ (h:=w_ (f_ (h:=w_ (l_ (h:=w_ (m_ (h:=w_ (bE (h:=wo_nil (e_ (h:=aft_normal (?_)))))))))))))
       refine c_ (h1:=?_) (h2:=?_)
       rotate_right 1
       focus
        intro c7
        first
        | exact dn c7
        | (
         have d7 := c7;try simp at d7
         refine wc_skip (?_)
         )
       rotate_right 1
       focus
        intro c7
        first
        | exact dn c7
        | (
         have d7 := c7;try simp at d7
         refine wa_ (wc_region (w_ (a_ (h:=wo_nil (e_ (h:=aft_normal (wc_ret (?_))))))))
         )
       all_goals first
       | refine aft_ret ?_
       | (
        refine aft_normal ?_
        refine wa_ (wc_region (w_ (m_ (h:=w_ (b_ (h:=w_ (a_ (h:=wo_nil (e_ (h:=aft_normal (wa_ (wc_region (w_ (m_ (h:=w_ (m_ (h:=w_ (x_ (h:=?_)))))))))))))))))))
        refine w_ (f_ (h:=w_ (l_ (h:=w_ (m_ (h:=w_ (ca (hc:=(by (try simp only [hw0,hw1,hw2,hw3,hw4,hw5,hw6]);exact held_I (k + (cn_Nds (l.take i) : Nat) + 1 + 1 + 1 + 1 + 1 + 1) y.cells.length (by omega) (by omega))) (h:=w_ (a_ (h:=wo_nil (e_ (h:=aft_normal (wa_ (wc_region (w_ (m_ (h:=w_ (b_ (h:=wo_nil (e_ (h:=?_)))))))))))))))))))))
        refine aft_normal (?_)
        refine c_ (h1:=?_) (h2:=?_)
        rotate_right 1
        focus
         intro c8
         first
         | exact dn c8
         | (
          have d8 := c8;try simp at d8
          refine wc_skip (?_)
          )
        rotate_right 1
        focus
         intro c8
         first
         | exact dn c8
         | (
          have d8 := c8;try simp at d8
          refine wa_ (wc_region (w_ (a_ (h:=wo_nil (e_ (h:=aft_normal (wc_ret (?_))))))))
          )
        )
       )
      )
     )
    )
   )
  all_goals first | refine blk_normal ?_ | refine blk_ret ?_
  all_goals first
  | refine aft_ret ?_
  | (
   refine aft_normal ?_
   refine wc_region (w_ (m_ (h:=w_ (b_ (h:=w_ (a_ (h:=wo_nil (e_ (h:=?_)))))))))
   )
  )
 all_goals first
 | (refine (ih (i + 1) (by omega) ?_ _ ?_).trans ?_;(focus (first | omega | (simp;done) | (simp;omega)));(focus (simp [normE,hw,hw0,hw1,hw2,hw3,hw4,hw5,hw6];done));(focus (rfl)))
 | (apply end_leaf (ex:=(Ext.exit 0)) 2 (some [1,4]);(focus (simp [normE];rfl));(focus (simp)))
 | (apply end_leaf (ex:=Ext.ret) 2 (some [1,4]);(focus (simp [normE];rfl));(focus (exfalso;clear ih hs hw;simp only [hw0,hw1,hw2,hw3,hw4,hw5] at *;simp at *)))
theorem held_Nds (k : Int) (l : List Nd) (hk : 0 ≤ k) (hb : k + (cn_Nds l : Nat) < 1000000000000000000) : oc.call 216 [.lst false 0 (nds false 0 (mk_Nds k l)),.int .i64 k] = some (.int .i64 (k + (cn_Nds l : Nat)),[]) := by
 refine fun_s rfl cd216 rfl rfl rfl (by simp;rfl) (by simp;rfl) ?_
 refine wa_ (wc_region (w_ (a_ (h:=wo_nil (e_ (h:=aft_normal (wa_ (wa_ (wc_region (w_ (a_ (h:=wo_nil (e_ (h:=aft_normal (wc_block (?_))))))))))))))))
 refine wc_loop (l_held_Nds k l hk hb 0 (by omega) _ (by simp [normE,cn_Nds])) ?_
 first | refine blk_ret ?_ | refine blk_exit ?_
 all_goals first
 | refine aft_ret ?_
 | (
  refine aft_normal ?_
  refine wa_ (wc_region (w_ (m_ (h:=w_ (a_ (h:=wo_nil (e_ (h:=aft_normal (wc_ret (?_))))))))))
  )
 all_goals (refine fin_ (hr:=(res_tmp rfl res_nil)) (h:=?_);(focus (first | (simp_all;done) | (simp_all <;> omega) | (simp_all <;> split <;> simp_all <;> omega))))
def cn_Et (x : Et) : Nat := x.row.length + 1
theorem cn_Et_pos (x : Et) : 1 ≤ cn_Et x := by unfold cn_Et;omega
def cn_Ets (l : List Et) : Nat := wS cn_Et l
theorem cn_Ets_len {l : List Et} : l.length ≤ cn_Ets l := wS_len cn_Et_pos
def mk_Et (k : Int) (x : Et) : Et := ⟨mkI (k) x.row.length,k + (x.row.length : Nat)⟩
@[simp] theorem mk_Et_row (k : Int) (x : Et) : (mk_Et k x).row = mkI (k) x.row.length := rfl
@[simp] theorem mk_Et_w (k : Int) (x : Et) : (mk_Et k x).w = k + (x.row.length : Nat) := rfl
def mk_Ets (k : Int) : List Et → List Et
  | [] => []
  | x :: r => mk_Et k x :: mk_Ets (k + (cn_Et x : Nat)) r
@[simp] theorem mk_Ets_len {k : Int} {l : List Et} : (mk_Ets k l).length = l.length := by
  induction l generalizing k with
  | nil => rfl
  | cons x r ih => simp [mk_Ets,ih]
@[simp] theorem mk_Ets_take {k : Int} {l : List Et} : (mk_Ets k l).take l.length = mk_Ets k l := List.take_of_length_le (by simp)
theorem mk_Ets_at {k : Int} {l : List Et} {i : Nat} {x : Et} (h : l[i]? = some x) : (mk_Ets k l)[i]? = some (mk_Et (k + (cn_Ets (l.take i) : Nat)) x) := by
  induction l generalizing k i with
  | nil => simp at h
  | cons y r ih =>
    cases i with
    | zero => simp at h;subst h;simp [mk_Ets,cn_Ets]
    | succ i => simp at h;simp only [mk_Ets,List.getElem?_cons_succ,ih h,List.take_succ_cons,cn_Ets,wS_cons];congr 2;push_cast;omega
@[simp] theorem alike_ets (t u : Bool) (a b : List Et) : V.alikeL (ets t a) (ets u b) = decide (a.length = b.length) := alikeL_map (fun _ _ => rfl)
theorem l_mk_Ets (k : Int) (l : List Et) (hk : 0 ≤ k) (hb : k + (cn_Ets l : Nat) < 1000000000000000000) : ∀ x : Nat × (List Et),(x.1 ≤ l.length ∧ x.2.length = l.length ∧ x.2.take x.1 = (mk_Ets k l).take x.1 ∧ x.2.drop x.1 = l.drop x.1) → ∀ s,normE 2 (some [0,1,5]) s = ⟨[(0,.ref 0 0 l.length),(1,.int .i64 (k + (cn_Ets (l.take x.1) : Nat))),(5,.int .i64 x.1)],[(0,⟨false,true,2,ets true x.2,0⟩)],2⟩ →
 oc.loop 18 2 s = some (.exit 0,⟨[(1,.int .i64 (k + (cn_Ets l : Nat)))],[(0,⟨false,true,2,ets true (mk_Ets k l),0⟩)],2⟩) := by
 refine loop_ind (σ:=Nat × (List Et)) (fun x => l.length - x.1) _ (fun x => ⟨[(0,.ref 0 0 l.length),(1,.int .i64 (k + (cn_Ets (l.take x.1) : Nat))),(5,.int .i64 x.1)],[(0,⟨false,true,2,ets true x.2,0⟩)],2⟩) _ ?_
 rintro ⟨i,r⟩ hi ih s hs
 simp only at hi
 refine loop_s cd18 rfl rfl hs ?_
 obtain ⟨hi1,hi2,hi3,hi4⟩ := hi
 have hlen := cn_Ets_len (l:=l)
 refine wa_ (wa_ (wc_region (w_ (m_ (h:=w_ (m_ (h:=w_ (le (h:=w_ (b_ (h:=wo_nil (e_ (h:=aft_normal (?_))))))))))))))
 refine c_ (h1:=?_) (h2:=?_)
 rotate_right 1
 focus
  intro c1
  simp at c1;obtain rfl : i = l.length := (by omega);obtain rfl : r = mk_Ets k l := (by rw [List.take_of_length_le (by omega),List.take_of_length_le (by simp)] at hi3;exact hi3)
  refine wc_exit (?_)
 rotate_right 1
 focus
  intro c1
  simp at c1;have hw := wrap_succ (i:=i) (by omega);obtain ⟨y,hx,_,_⟩ := ets_cut (t:=false) (l:=l) (i:=i) c1;have hy : r[i]? = some y := (by have := congrArg (fun q => q[0]?) hi4;simpa [hx] using this);have g2 : (ets true r)[i]? = some (Et.v true (y)) := (by simp [ets,hy]);have hcut := wS_cut (f:=cn_Et) hx;have hle := wS_take (f:=cn_Et) (l:=l) (i:=i + 1);have hcy : cn_Et y = y.row.length + 1 := rfl;change cn_Ets (l.take (i + 1)) = cn_Ets (l.take i) + cn_Et y at hcut;change cn_Ets (l.take (i + 1)) ≤ cn_Ets l at hle;have hw1 : IntKind.i64.wrap (k + (cn_Ets (l.take i) : Nat) + (y.row.length : Nat) + 1) = k + ((cn_Ets (l.take (i + 1)) : Nat) : Int) := (by rw [hcut];exact (wrap_id (by omega) (by omega)).trans (by omega))
  refine wc_skip (?_)
 all_goals first
 | refine aft_exit ?_
 | (
  refine aft_normal ?_
  refine wa_ (wc_block (wa_ (wc_region (w_ (m_ (h:=w_ (m_ (h:=w_ (x_ (h:=w_ (f_ (h:=w_ (l_ (h:=w_ (m_ (h:=?_))))))))))))))))
  first | refine ip (hc:=(by (try simp only [hw1]);exact mk_I (k + (cn_Ets (l.take i) : Nat)) y.row (by omega) (by omega))) (h:=?_) | refine iq (hc:=(by (try simp only [hw1]);exact mk_I (k + (cn_Ets (l.take i) : Nat)) y.row (by omega) (by omega))) (h:=?_)
  refine w_ (a_ (h:=wo_nil (e_ (h:=aft_normal (wa_ (wc_region (w_ (m_ (h:=w_ (m_ (h:=w_ (m_ (h:=w_ (x_ (h:=w_ (f_ (h:=w0 (s_ (h:=wo_nil (e_ (h:=?_)))))))))))))))))))))
  refine aft_normal (wc_region (w_ (m_ (h:=w_ (b_ (h:=w_ (a_ (h:=wo_nil (e_ (h:=blk_normal (aft_normal (wc_region (w_ (m_ (h:=w_ (b_ (h:=w_ (a_ (h:=?_)))))))))))))))))))
  refine wo_nil (e_ (h:=?_))
  )
 all_goals first
 | (refine (ih ((i + 1,r.set i (mk_Et (k + (cn_Ets (l.take i) : Nat)) y))) (⟨by simp;omega,by simpa using hi2,set_take hi3 (by simpa using hi2) (mk_Ets_at hx),set_drop hi4⟩) ?_ _ ?_).trans ?_;(focus (first | omega | (simp;done) | (simp;omega)));(focus (simp [normE,hw,hw1,mk_Et];done));(focus (rfl)))
 | (apply end_leaf (ex:=(Ext.exit 0)) 2 (some [1]);(focus (simp [normE];rfl));(focus (simp)))
theorem mkf_Ets (k : Int) (l : List Et) (hk : 0 ≤ k) (hb : k + (cn_Ets l : Nat) < 1000000000000000000) : oc.call 18 [.iol 2 (ets true l),.int .i64 k] = some (.int .i64 (k + (cn_Ets l : Nat)),[.lst true 2 (ets true (mk_Ets k l))]) := by
 refine fun_s rfl cd18 rfl rfl rfl (by simp;rfl) (by simp;rfl) ?_
 refine wa_ (wc_region (w_ (a_ (h:=wo_nil (e_ (h:=aft_normal (wa_ (wa_ (wc_region (w_ (a_ (h:=wo_nil (e_ (h:=aft_normal (wc_block (?_))))))))))))))))
 refine wc_loop (l_mk_Ets k l hk hb (0,l) (by simp) _ (by simp [normE,cn_Ets])) ?_
 refine blk_exit (aft_normal (wa_ (wc_region (w_ (m_ (h:=w_ (a_ (h:=wo_nil (e_ (h:=aft_normal (wc_ret (?_))))))))))))
 all_goals (refine fin_ (hr:=(res_tmp rfl res_nil)) (h:=?_);(focus (first | (simp_all;done) | (simp_all <;> omega) | (simp_all <;> split <;> simp_all <;> omega))))
theorem l_held_Ets (k : Int) (l : List Et) (hk : 0 ≤ k) (hb : k + (cn_Ets l : Nat) < 1000000000000000000) : ∀ i : Nat,(i ≤ l.length) → ∀ s,normE 2 (some [0,1,5]) s = ⟨[(0,.lst false 0 (ets false (mk_Ets k l))),(1,.int .i64 (k + (cn_Ets (l.take i) : Nat))),(5,.int .i64 i)],[],2⟩ →
 oc.loop 95 2 s = some (.exit 0,⟨[(1,.int .i64 (k + (cn_Ets l : Nat)))],[],2⟩) := by
 refine loop_ind (σ:=Nat) (fun i => l.length - i) _ (fun i => ⟨[(0,.lst false 0 (ets false (mk_Ets k l))),(1,.int .i64 (k + (cn_Ets (l.take i) : Nat))),(5,.int .i64 i)],[],2⟩) _ ?_
 intro i hi ih s hs
 refine loop_s cd95 rfl rfl hs ?_
 have hlen := cn_Ets_len (l:=l)
 refine wa_ (wa_ (wc_region (w_ (m_ (h:=w_ (m_ (h:=w_ (le (h:=w_ (b_ (h:=wo_nil (e_ (h:=aft_normal (?_))))))))))))))
 refine c_ (h1:=?_) (h2:=?_)
 rotate_right 1
 focus
  intro c1
  first
  | exact dn c1
  | (
   have d1 := c1;try simp at d1
   obtain rfl : i = l.length := (by omega)
   refine wc_exit (?_)
   )
 rotate_right 1
 focus
  intro c1
  first
  | exact dn c1
  | (
   have d1 := c1;try simp at d1
   have hc1 : i < l.length := (by simpa using d1);have hw := wrap_succ (i:=i) (by omega);obtain ⟨y,hx,_,_⟩ := ets_cut (t:=false) (l:=l) (i:=i) hc1;have g2 : (ets false (mk_Ets k l))[i]? = some (Et.v false (mk_Et (k + (cn_Ets (l.take i) : Nat)) y)) := (by simp [ets,mk_Ets_at hx]);have hcut := wS_cut (f:=cn_Et) hx;have hle := wS_take (f:=cn_Et) (l:=l) (i:=i + 1);have hcy : cn_Et y = y.row.length + 1 := rfl;change cn_Ets (l.take (i + 1)) = cn_Ets (l.take i) + cn_Et y at hcut;change cn_Ets (l.take (i + 1)) ≤ cn_Ets l at hle;have hw1 : IntKind.i64.wrap (k + (cn_Ets (l.take i) : Nat) + (y.row.length : Nat) + 1) = k + ((cn_Ets (l.take (i + 1)) : Nat) : Int) := (by rw [hcut];exact (wrap_id (by omega) (by omega)).trans (by omega))
   refine wc_skip (?_)
   )
 all_goals first
 | refine aft_exit ?_
 | (
  refine aft_normal ?_
  refine wa_ (wc_block (wa_ (wc_region (w_ (m_ (h:=w_ (m_ (h:=w_ (x_ (h:=w_ (f_ (h:=w_ (l_ (h:=w_ (m_ (h:=w_ (ca (hc:=(by (try simp only [hw1]);exact held_I (k + (cn_Ets (l.take i) : Nat)) y.row.length (by omega) (by omega))) (h:=w_ (a_ (h:=?_))))))))))))))))))))
  refine wo_nil (e_ (h:=aft_normal (wa_ (wa_ (wc_region (w_ (m_ (h:=w_ (b_ (h:=wo_nil (e_ (h:=aft_normal (?_)))))))))))))
  refine c_ (h1:=?_) (h2:=?_)
  rotate_right 1
  focus
   intro c2
   first
   | exact dn c2
   | (
    have d2 := c2;try simp at d2
    refine wc_skip (?_)
    )
  rotate_right 1
  focus
   intro c2
   first
   | exact dn c2
   | (
    have d2 := c2;try simp at d2
    refine wa_ (wc_region (w_ (a_ (h:=wo_nil (e_ (h:=aft_normal (wc_ret (?_))))))))
    )
  all_goals first
  | refine aft_ret ?_
  | (
   refine aft_normal ?_
   refine wa_ (wa_ (wc_region (w_ (m_ (h:=w_ (m_ (h:=w_ (x_ (h:=w_ (f_ (h:=w_ (l_ (h:=w_ (m_ (h:=w_ (bE (h:=wo_nil (e_ (h:=aft_normal (?_))))))))))))))))))))
   refine c_ (h1:=?_) (h2:=?_)
   rotate_right 1
   focus
    intro c3
    first
    | exact dn c3
    | (
     have d3 := c3;try simp at d3
     refine wc_skip (?_)
     )
   rotate_right 1
   focus
    intro c3
    first
    | exact dn c3
    | (
     have d3 := c3;try simp at d3
     refine wa_ (wc_region (w_ (a_ (h:=wo_nil (e_ (h:=aft_normal (wc_ret (?_))))))))
     )
   all_goals first
   | refine aft_ret ?_
   | (
    refine aft_normal ?_
    refine wc_region (w_ (m_ (h:=w_ (b_ (h:=w_ (a_ (h:=wo_nil (e_ (h:=?_)))))))))
    )
   )
  all_goals first | refine blk_normal ?_ | refine blk_ret ?_
  all_goals first
  | refine aft_ret ?_
  | (
   refine aft_normal ?_
   refine wc_region (w_ (m_ (h:=w_ (b_ (h:=w_ (a_ (h:=wo_nil (e_ (h:=?_)))))))))
   )
  )
 all_goals first
 | (refine (ih (i + 1) (by omega) ?_ _ ?_).trans ?_;(focus (first | omega | (simp;done) | (simp;omega)));(focus (simp [normE,hw,hw1];done));(focus (rfl)))
 | (apply end_leaf (ex:=(Ext.exit 0)) 2 (some [1,4]);(focus (simp [normE];rfl));(focus (simp)))
 | (apply end_leaf (ex:=Ext.ret) 2 (some [1,4]);(focus (simp [normE];rfl));(focus (exfalso;omega)))
theorem held_Ets (k : Int) (l : List Et) (hk : 0 ≤ k) (hb : k + (cn_Ets l : Nat) < 1000000000000000000) : oc.call 95 [.lst false 0 (ets false (mk_Ets k l)),.int .i64 k] = some (.int .i64 (k + (cn_Ets l : Nat)),[]) := by
 refine fun_s rfl cd95 rfl rfl rfl (by simp;rfl) (by simp;rfl) ?_
 refine wa_ (wc_region (w_ (a_ (h:=wo_nil (e_ (h:=aft_normal (wa_ (wa_ (wc_region (w_ (a_ (h:=wo_nil (e_ (h:=aft_normal (wc_block (?_))))))))))))))))
 refine wc_loop (l_held_Ets k l hk hb 0 (by omega) _ (by simp [normE,cn_Ets])) ?_
 first | refine blk_ret ?_ | refine blk_exit ?_
 all_goals first
 | refine aft_ret ?_
 | (
  refine aft_normal ?_
  refine wa_ (wc_region (w_ (m_ (h:=w_ (a_ (h:=wo_nil (e_ (h:=aft_normal (wc_ret (?_))))))))))
  )
 all_goals (refine fin_ (hr:=(res_tmp rfl res_nil)) (h:=?_);(focus (first | (simp_all;done) | (simp_all <;> omega) | (simp_all <;> split <;> simp_all <;> omega))))
def cn_Fr (x : Fr) : Nat := 1 + 1 + 1 + 1 + cn_Ets x.set + cn_Cts x.news
theorem cn_Fr_pos (x : Fr) : 1 ≤ cn_Fr x := by unfold cn_Fr;omega
def cn_Frs (l : List Fr) : Nat := wS cn_Fr l
theorem cn_Frs_len {l : List Fr} : l.length ≤ cn_Frs l := wS_len cn_Fr_pos
def mk_Fr (k : Int) (x : Fr) : Fr := ⟨k,k + 1,k + 1 + 1,k + 1 + 1 + 1,mk_Ets (k + 1 + 1 + 1 + 1) x.set,mk_Cts (k + 1 + 1 + 1 + 1 + (cn_Ets x.set : Nat)) x.news⟩
@[simp] theorem mk_Fr_kind (k : Int) (x : Fr) : (mk_Fr k x).kind = k := rfl
@[simp] theorem mk_Fr_node (k : Int) (x : Fr) : (mk_Fr k x).node = k + 1 := rfl
@[simp] theorem mk_Fr_side (k : Int) (x : Fr) : (mk_Fr k x).side = k + 1 + 1 := rfl
@[simp] theorem mk_Fr_ep (k : Int) (x : Fr) : (mk_Fr k x).ep = k + 1 + 1 + 1 := rfl
@[simp] theorem mk_Fr_set (k : Int) (x : Fr) : (mk_Fr k x).set = mk_Ets (k + 1 + 1 + 1 + 1) x.set := rfl
@[simp] theorem mk_Fr_news (k : Int) (x : Fr) : (mk_Fr k x).news = mk_Cts (k + 1 + 1 + 1 + 1 + (cn_Ets x.set : Nat)) x.news := rfl
def mk_Frs (k : Int) : List Fr → List Fr
  | [] => []
  | x :: r => mk_Fr k x :: mk_Frs (k + (cn_Fr x : Nat)) r
@[simp] theorem mk_Frs_len {k : Int} {l : List Fr} : (mk_Frs k l).length = l.length := by
  induction l generalizing k with
  | nil => rfl
  | cons x r ih => simp [mk_Frs,ih]
@[simp] theorem mk_Frs_take {k : Int} {l : List Fr} : (mk_Frs k l).take l.length = mk_Frs k l := List.take_of_length_le (by simp)
theorem mk_Frs_at {k : Int} {l : List Fr} {i : Nat} {x : Fr} (h : l[i]? = some x) : (mk_Frs k l)[i]? = some (mk_Fr (k + (cn_Frs (l.take i) : Nat)) x) := by
  induction l generalizing k i with
  | nil => simp at h
  | cons y r ih =>
    cases i with
    | zero => simp at h;subst h;simp [mk_Frs,cn_Frs]
    | succ i => simp at h;simp only [mk_Frs,List.getElem?_cons_succ,ih h,List.take_succ_cons,cn_Frs,wS_cons];congr 2;push_cast;omega
@[simp] theorem alike_frs (t u : Bool) (a b : List Fr) : V.alikeL (frs t a) (frs u b) = decide (a.length = b.length) := alikeL_map (fun _ _ => rfl)
theorem l_mk_Frs (k : Int) (l : List Fr) (hk : 0 ≤ k) (hb : k + (cn_Frs l : Nat) < 1000000000000000000) : ∀ x : Nat × (List Fr),(x.1 ≤ l.length ∧ x.2.length = l.length ∧ x.2.take x.1 = (mk_Frs k l).take x.1 ∧ x.2.drop x.1 = l.drop x.1) → ∀ s,normE 2 (some [0,1,5]) s = ⟨[(0,.ref 0 0 l.length),(1,.int .i64 (k + (cn_Frs (l.take x.1) : Nat))),(5,.int .i64 x.1)],[(0,⟨false,true,6,frs true x.2,0⟩)],2⟩ →
 oc.loop 238 2 s = some (.exit 0,⟨[(1,.int .i64 (k + (cn_Frs l : Nat)))],[(0,⟨false,true,6,frs true (mk_Frs k l),0⟩)],2⟩) := by
 refine loop_ind (σ:=Nat × (List Fr)) (fun x => l.length - x.1) _ (fun x => ⟨[(0,.ref 0 0 l.length),(1,.int .i64 (k + (cn_Frs (l.take x.1) : Nat))),(5,.int .i64 x.1)],[(0,⟨false,true,6,frs true x.2,0⟩)],2⟩) _ ?_
 rintro ⟨i,r⟩ hi ih s hs
 simp only at hi
 refine loop_s cd238 rfl rfl hs ?_
 obtain ⟨hi1,hi2,hi3,hi4⟩ := hi
 have hlen := cn_Frs_len (l:=l)
 refine wa_ (wa_ (wc_region (w_ (m_ (h:=w_ (m_ (h:=w_ (le (h:=w_ (b_ (h:=wo_nil (e_ (h:=aft_normal (?_))))))))))))))
 refine c_ (h1:=?_) (h2:=?_)
 rotate_right 1
 focus
  intro c1
  simp at c1;obtain rfl : i = l.length := (by omega);obtain rfl : r = mk_Frs k l := (by rw [List.take_of_length_le (by omega),List.take_of_length_le (by simp)] at hi3;exact hi3)
  refine wc_exit (?_)
 rotate_right 1
 focus
  intro c1
  simp at c1;have hw := wrap_succ (i:=i) (by omega);obtain ⟨y,hx,_,_⟩ := frs_cut (t:=false) (l:=l) (i:=i) c1;have hy : r[i]? = some y := (by have := congrArg (fun q => q[0]?) hi4;simpa [hx] using this);have g2 : (frs true r)[i]? = some (Fr.v true (y)) := (by simp [frs,hy]);have hcut := wS_cut (f:=cn_Fr) hx;have hle := wS_take (f:=cn_Fr) (l:=l) (i:=i + 1);have hcy : cn_Fr y = 1 + 1 + 1 + 1 + cn_Ets y.set + cn_Cts y.news := rfl;change cn_Frs (l.take (i + 1)) = cn_Frs (l.take i) + cn_Fr y at hcut;change cn_Frs (l.take (i + 1)) ≤ cn_Frs l at hle;have hw0 : IntKind.i64.wrap (k + (cn_Frs (l.take i) : Nat) + 1) = k + (cn_Frs (l.take i) : Nat) + 1 := wrap_id (by omega) (by omega);have hw1 : IntKind.i64.wrap (k + (cn_Frs (l.take i) : Nat) + 1 + 1) = k + (cn_Frs (l.take i) : Nat) + 1 + 1 := wrap_id (by omega) (by omega);have hw2 : IntKind.i64.wrap (k + (cn_Frs (l.take i) : Nat) + 1 + 1 + 1) = k + (cn_Frs (l.take i) : Nat) + 1 + 1 + 1 := wrap_id (by omega) (by omega);have hw3 : IntKind.i64.wrap (k + (cn_Frs (l.take i) : Nat) + 1 + 1 + 1 + 1) = k + (cn_Frs (l.take i) : Nat) + 1 + 1 + 1 + 1 := wrap_id (by omega) (by omega);have hw5 : k + (cn_Frs (l.take i) : Nat) + 1 + 1 + 1 + 1 + (cn_Ets y.set : Nat) + (cn_Cts y.news : Nat) = k + ((cn_Frs (l.take (i + 1)) : Nat) : Int) := (by rw [hcut];omega)
  refine wc_skip (?_)
 all_goals first
 | refine aft_exit ?_
 | (
  refine aft_normal ?_
  refine wa_ (wc_block (wa_ (wc_region (w_ (m_ (h:=w_ (m_ (h:=w_ (m_ (h:=w_ (x_ (h:=w_ (f_ (h:=w0 (s_ (h:=wo_nil (e_ (h:=aft_normal (?_)))))))))))))))))))
  refine wa_ (wc_region (w_ (m_ (h:=w_ (b_ (h:=w_ (a_ (h:=wo_nil (e_ (h:=aft_normal (wa_ (wc_region (w_ (m_ (h:=w_ (m_ (h:=w_ (m_ (h:=?_)))))))))))))))))))
  refine w_ (x_ (h:=w_ (f_ (h:=w0 (s_ (h:=wo_nil (e_ (h:=aft_normal (wa_ (wc_region (w_ (m_ (h:=w_ (b_ (h:=w_ (a_ (h:=wo_nil (e_ (h:=aft_normal (?_))))))))))))))))))))
  refine wa_ (wc_region (w_ (m_ (h:=w_ (m_ (h:=w_ (m_ (h:=w_ (x_ (h:=w_ (f_ (h:=w0 (s_ (h:=wo_nil (e_ (h:=aft_normal (wa_ (wc_region (?_)))))))))))))))))))
  refine w_ (m_ (h:=w_ (b_ (h:=w_ (a_ (h:=wo_nil (e_ (h:=aft_normal (wa_ (wc_region (w_ (m_ (h:=w_ (m_ (h:=w_ (m_ (h:=w_ (x_ (h:=w_ (f_ (h:=?_)))))))))))))))))))))
  refine w0 (s_ (h:=wo_nil (e_ (h:=aft_normal (wa_ (wc_region (w_ (m_ (h:=w_ (b_ (h:=w_ (a_ (h:=wo_nil (e_ (h:=aft_normal (wa_ (wc_region (?_))))))))))))))))))
  refine w_ (m_ (h:=w_ (m_ (h:=w_ (x_ (h:=w_ (f_ (h:=w_ (l_ (h:=w_ (m_ (h:=?_))))))))))))
  first | refine ip (hc:=(by (try simp only [hw0,hw1,hw2,hw3,hw5]);exact mkf_Ets (k + (cn_Frs (l.take i) : Nat) + 1 + 1 + 1 + 1) y.set (by omega) (by omega))) (h:=?_) | refine iq (hc:=(by (try simp only [hw0,hw1,hw2,hw3,hw5]);exact mkf_Ets (k + (cn_Frs (l.take i) : Nat) + 1 + 1 + 1 + 1) y.set (by omega) (by omega))) (h:=?_)
  refine w_ (a_ (h:=wo_nil (e_ (h:=aft_normal (wc_region (w_ (m_ (h:=w_ (m_ (h:=w_ (x_ (h:=w_ (f_ (h:=w_ (l_ (h:=w_ (m_ (h:=?_))))))))))))))))))
  first | refine ip (hc:=(by (try simp only [hw0,hw1,hw2,hw3,hw5]);exact mkf_Cts (k + (cn_Frs (l.take i) : Nat) + 1 + 1 + 1 + 1 + (cn_Ets y.set : Nat)) y.news (by omega) (by omega))) (h:=?_) | refine iq (hc:=(by (try simp only [hw0,hw1,hw2,hw3,hw5]);exact mkf_Cts (k + (cn_Frs (l.take i) : Nat) + 1 + 1 + 1 + 1 + (cn_Ets y.set : Nat)) y.news (by omega) (by omega))) (h:=?_)
  refine w_ (a_ (h:=wo_nil (e_ (h:=blk_normal (aft_normal (wc_region (w_ (m_ (h:=w_ (b_ (h:=w_ (a_ (h:=wo_nil (e_ (h:=?_)))))))))))))))
  )
 all_goals first
 | (refine (ih ((i + 1,r.set i (mk_Fr (k + (cn_Frs (l.take i) : Nat)) y))) (⟨by simp;omega,by simpa using hi2,set_take hi3 (by simpa using hi2) (mk_Frs_at hx),set_drop hi4⟩) ?_ _ ?_).trans ?_;(focus (first | omega | (simp;done) | (simp;omega)));(focus (simp [normE,hw,hw0,hw1,hw2,hw3,hw5,mk_Fr];done));(focus (rfl)))
 | (apply end_leaf (ex:=(Ext.exit 0)) 2 (some [1]);(focus (simp [normE];rfl));(focus (simp)))
theorem mkf_Frs (k : Int) (l : List Fr) (hk : 0 ≤ k) (hb : k + (cn_Frs l : Nat) < 1000000000000000000) : oc.call 238 [.iol 6 (frs true l),.int .i64 k] = some (.int .i64 (k + (cn_Frs l : Nat)),[.lst true 6 (frs true (mk_Frs k l))]) := by
 refine fun_s rfl cd238 rfl rfl rfl (by simp;rfl) (by simp;rfl) ?_
 refine wa_ (wc_region (w_ (a_ (h:=wo_nil (e_ (h:=aft_normal (wa_ (wa_ (wc_region (w_ (a_ (h:=wo_nil (e_ (h:=aft_normal (wc_block (?_))))))))))))))))
 refine wc_loop (l_mk_Frs k l hk hb (0,l) (by simp) _ (by simp [normE,cn_Frs])) ?_
 refine blk_exit (aft_normal (wa_ (wc_region (w_ (m_ (h:=w_ (a_ (h:=wo_nil (e_ (h:=aft_normal (wc_ret (?_))))))))))))
 all_goals (refine fin_ (hr:=(res_tmp rfl res_nil)) (h:=?_);(focus (first | (simp_all;done) | (simp_all <;> omega) | (simp_all <;> split <;> simp_all <;> omega))))
theorem l_held_Frs (k : Int) (l : List Fr) (hk : 0 ≤ k) (hb : k + (cn_Frs l : Nat) < 1000000000000000000) : ∀ i : Nat,(i ≤ l.length) → ∀ s,normE 2 (some [0,1,5]) s = ⟨[(0,.lst false 0 (frs false (mk_Frs k l))),(1,.int .i64 (k + (cn_Frs (l.take i) : Nat))),(5,.int .i64 i)],[],2⟩ →
 oc.loop 241 2 s = some (.exit 0,⟨[(1,.int .i64 (k + (cn_Frs l : Nat)))],[],2⟩) := by
 refine loop_ind (σ:=Nat) (fun i => l.length - i) _ (fun i => ⟨[(0,.lst false 0 (frs false (mk_Frs k l))),(1,.int .i64 (k + (cn_Frs (l.take i) : Nat))),(5,.int .i64 i)],[],2⟩) _ ?_
 intro i hi ih s hs
 refine loop_s cd241 rfl rfl hs ?_
 have hlen := cn_Frs_len (l:=l)
 refine wa_ (wa_ (wc_region (w_ (m_ (h:=w_ (m_ (h:=w_ (le (h:=w_ (b_ (h:=wo_nil (e_ (h:=aft_normal (?_))))))))))))))
 refine c_ (h1:=?_) (h2:=?_)
 rotate_right 1
 focus
  intro c1
  first
  | exact dn c1
  | (
   have d1 := c1;try simp at d1
   obtain rfl : i = l.length := (by omega)
   refine wc_exit (?_)
   )
 rotate_right 1
 focus
  intro c1
  first
  | exact dn c1
  | (
   have d1 := c1;try simp at d1
   have hc1 : i < l.length := (by simpa using d1);have hw := wrap_succ (i:=i) (by omega);obtain ⟨y,hx,_,_⟩ := frs_cut (t:=false) (l:=l) (i:=i) hc1;have g2 : (frs false (mk_Frs k l))[i]? = some (Fr.v false (mk_Fr (k + (cn_Frs (l.take i) : Nat)) y)) := (by simp [frs,mk_Frs_at hx]);have hcut := wS_cut (f:=cn_Fr) hx;have hle := wS_take (f:=cn_Fr) (l:=l) (i:=i + 1);have hcy : cn_Fr y = 1 + 1 + 1 + 1 + cn_Ets y.set + cn_Cts y.news := rfl;change cn_Frs (l.take (i + 1)) = cn_Frs (l.take i) + cn_Fr y at hcut;change cn_Frs (l.take (i + 1)) ≤ cn_Frs l at hle;have hw0 : IntKind.i64.wrap (k + (cn_Frs (l.take i) : Nat) + 1) = k + (cn_Frs (l.take i) : Nat) + 1 := wrap_id (by omega) (by omega);have hw1 : IntKind.i64.wrap (k + (cn_Frs (l.take i) : Nat) + 1 + 1) = k + (cn_Frs (l.take i) : Nat) + 1 + 1 := wrap_id (by omega) (by omega);have hw2 : IntKind.i64.wrap (k + (cn_Frs (l.take i) : Nat) + 1 + 1 + 1) = k + (cn_Frs (l.take i) : Nat) + 1 + 1 + 1 := wrap_id (by omega) (by omega);have hw3 : IntKind.i64.wrap (k + (cn_Frs (l.take i) : Nat) + 1 + 1 + 1 + 1) = k + (cn_Frs (l.take i) : Nat) + 1 + 1 + 1 + 1 := wrap_id (by omega) (by omega);have hw5 : k + (cn_Frs (l.take i) : Nat) + 1 + 1 + 1 + 1 + (cn_Ets y.set : Nat) + (cn_Cts y.news : Nat) = k + ((cn_Frs (l.take (i + 1)) : Nat) : Int) := (by rw [hcut];omega)
   refine wc_skip (?_)
   )
 all_goals first
 | refine aft_exit ?_
 | (
  refine aft_normal ?_
  refine wa_ (wc_block (wa_ (wa_ (wc_region (w_ (m_ (h:=w_ (m_ (h:=w_ (x_ (h:=w_ (f_ (h:=w_ (l_ (h:=w_ (m_ (h:=w_ (bE (h:=?_)))))))))))))))))))
  refine wo_nil (e_ (h:=aft_normal (?_)))
  refine c_ (h1:=?_) (h2:=?_)
  rotate_right 1
  focus
   intro c2
   first
   | exact dn c2
   | (
    have d2 := c2;try simp at d2
    refine wc_skip (?_)
    )
  rotate_right 1
  focus
   intro c2
   first
   | exact dn c2
   | (
    have d2 := c2;try simp at d2
    refine wa_ (wc_region (w_ (a_ (h:=wo_nil (e_ (h:=aft_normal (wc_ret (?_))))))))
    )
  all_goals first
  | refine aft_ret ?_
  | (
   refine aft_normal ?_
   refine wa_ (wc_region (w_ (m_ (h:=w_ (b_ (h:=w_ (a_ (h:=wo_nil (e_ (h:=aft_normal (wa_ (wa_ (wc_region (w_ (m_ (h:=w_ (m_ (h:=?_))))))))))))))))))
   refine w_ (x_ (h:=w_ (f_ (h:=w_ (l_ (h:=w_ (m_ (h:=w_ (bE (h:=wo_nil (e_ (h:=aft_normal (?_)))))))))))))
   refine c_ (h1:=?_) (h2:=?_)
   rotate_right 1
   focus
    intro c3
    first
    | exact dn c3
    | (
     have d3 := c3;try simp at d3
     refine wc_skip (?_)
     )
   rotate_right 1
   focus
    intro c3
    first
    | exact dn c3
    | (
     have d3 := c3;try simp at d3
     refine wa_ (wc_region (w_ (a_ (h:=wo_nil (e_ (h:=aft_normal (wc_ret (?_))))))))
     )
   all_goals first
   | refine aft_ret ?_
   | (
    refine aft_normal ?_
    refine wa_ (wc_region (w_ (m_ (h:=w_ (b_ (h:=w_ (a_ (h:=wo_nil (e_ (h:=aft_normal (wa_ (wa_ (wc_region (w_ (m_ (h:=w_ (m_ (h:=?_))))))))))))))))))
    refine w_ (x_ (h:=w_ (f_ (h:=w_ (l_ (h:=w_ (m_ (h:=w_ (bE (h:=wo_nil (e_ (h:=aft_normal (?_)))))))))))))
    refine c_ (h1:=?_) (h2:=?_)
    rotate_right 1
    focus
     intro c4
     first
     | exact dn c4
     | (
      have d4 := c4;try simp at d4
      refine wc_skip (?_)
      )
    rotate_right 1
    focus
     intro c4
     first
     | exact dn c4
     | (
      have d4 := c4;try simp at d4
      refine wa_ (wc_region (w_ (a_ (h:=wo_nil (e_ (h:=aft_normal (wc_ret (?_))))))))
      )
    all_goals first
    | refine aft_ret ?_
    | (
     refine aft_normal ?_
     refine wa_ (wc_region (w_ (m_ (h:=w_ (b_ (h:=w_ (a_ (h:=wo_nil (e_ (h:=aft_normal (wa_ (wa_ (wc_region (w_ (m_ (h:=w_ (m_ (h:=?_))))))))))))))))))
     refine w_ (x_ (h:=w_ (f_ (h:=w_ (l_ (h:=w_ (m_ (h:=w_ (bE (h:=wo_nil (e_ (h:=aft_normal (?_)))))))))))))
     refine c_ (h1:=?_) (h2:=?_)
     rotate_right 1
     focus
      intro c5
      first
      | exact dn c5
      | (
       have d5 := c5;try simp at d5
       refine wc_skip (?_)
       )
     rotate_right 1
     focus
      intro c5
      first
      | exact dn c5
      | (
       have d5 := c5;try simp at d5
       refine wa_ (wc_region (w_ (a_ (h:=wo_nil (e_ (h:=aft_normal (wc_ret (?_))))))))
       )
     all_goals first
     | refine aft_ret ?_
     | (
      refine aft_normal ?_
      refine wa_ (wc_region (w_ (m_ (h:=w_ (b_ (h:=w_ (a_ (h:=wo_nil (e_ (h:=aft_normal (wa_ (wc_region (w_ (m_ (h:=w_ (m_ (h:=w_ (x_ (h:=?_)))))))))))))))))))
      refine w_ (f_ (h:=w_ (l_ (h:=w_ (m_ (h:=w_ (ca (hc:=(by (try simp only [hw0,hw1,hw2,hw3,hw5]);exact held_Ets (k + (cn_Frs (l.take i) : Nat) + 1 + 1 + 1 + 1) y.set (by omega) (by omega))) (h:=w_ (a_ (h:=wo_nil (e_ (h:=aft_normal (wa_ (wa_ (wc_region (w_ (m_ (h:=w_ (b_ (h:=?_))))))))))))))))))))
      refine wo_nil (e_ (h:=aft_normal (?_)))
      refine c_ (h1:=?_) (h2:=?_)
      rotate_right 1
      focus
       intro c6
       first
       | exact dn c6
       | (
        have d6 := c6;try simp at d6
        refine wc_skip (?_)
        )
      rotate_right 1
      focus
       intro c6
       first
       | exact dn c6
       | (
        have d6 := c6;try simp at d6
        refine wa_ (wc_region (w_ (a_ (h:=wo_nil (e_ (h:=aft_normal (wc_ret (?_))))))))
        )
      all_goals first
      | refine aft_ret ?_
      | (
       refine aft_normal ?_
       refine wa_ (wc_region (w_ (m_ (h:=w_ (m_ (h:=w_ (x_ (h:=w_ (f_ (h:=w_ (l_ (h:=w_ (m_ (h:=w_ (ca (hc:=(by (try simp only [hw0,hw1,hw2,hw3,hw5]);exact held_Cts (k + (cn_Frs (l.take i) : Nat) + 1 + 1 + 1 + 1 + (cn_Ets y.set : Nat)) y.news (by omega) (by omega))) (h:=w_ (a_ (h:=wo_nil (e_ (h:=aft_normal (?_)))))))))))))))))))))
       refine wa_ (wc_region (w_ (m_ (h:=w_ (b_ (h:=wo_nil (e_ (h:=aft_normal (?_)))))))))
       refine c_ (h1:=?_) (h2:=?_)
       rotate_right 1
       focus
        intro c7
        first
        | exact dn c7
        | (
         have d7 := c7;try simp at d7
         refine wc_skip (?_)
         )
       rotate_right 1
       focus
        intro c7
        first
        | exact dn c7
        | (
         have d7 := c7;try simp at d7
         refine wa_ (wc_region (w_ (a_ (h:=wo_nil (e_ (h:=aft_normal (wc_ret (?_))))))))
         )
       )
      )
     )
    )
   )
  all_goals first | refine blk_normal ?_ | refine blk_ret ?_
  all_goals first
  | refine aft_ret ?_
  | (
   refine aft_normal ?_
   refine wc_region (w_ (m_ (h:=w_ (b_ (h:=w_ (a_ (h:=wo_nil (e_ (h:=?_)))))))))
   )
  )
 all_goals first
 | (refine (ih (i + 1) (by omega) ?_ _ ?_).trans ?_;(focus (first | omega | (simp;done) | (simp;omega)));(focus (simp [normE,hw,hw0,hw1,hw2,hw3,hw5];done));(focus (rfl)))
 | (apply end_leaf (ex:=(Ext.exit 0)) 2 (some [1,4]);(focus (simp [normE];rfl));(focus (simp)))
 | (apply end_leaf (ex:=Ext.ret) 2 (some [1,4]);(focus (simp [normE];rfl));(focus (exfalso;clear ih hs hw;simp only [hw0,hw1,hw2,hw3] at *;simp at *)))
theorem held_Frs (k : Int) (l : List Fr) (hk : 0 ≤ k) (hb : k + (cn_Frs l : Nat) < 1000000000000000000) : oc.call 241 [.lst false 0 (frs false (mk_Frs k l)),.int .i64 k] = some (.int .i64 (k + (cn_Frs l : Nat)),[]) := by
 refine fun_s rfl cd241 rfl rfl rfl (by simp;rfl) (by simp;rfl) ?_
 refine wa_ (wc_region (w_ (a_ (h:=wo_nil (e_ (h:=aft_normal (wa_ (wa_ (wc_region (w_ (a_ (h:=wo_nil (e_ (h:=aft_normal (wc_block (?_))))))))))))))))
 refine wc_loop (l_held_Frs k l hk hb 0 (by omega) _ (by simp [normE,cn_Frs])) ?_
 first | refine blk_ret ?_ | refine blk_exit ?_
 all_goals first
 | refine aft_ret ?_
 | (
  refine aft_normal ?_
  refine wa_ (wc_region (w_ (m_ (h:=w_ (a_ (h:=wo_nil (e_ (h:=aft_normal (wc_ret (?_))))))))))
  )
 all_goals (refine fin_ (hr:=(res_tmp rfl res_nil)) (h:=?_);(focus (first | (simp_all;done) | (simp_all <;> omega) | (simp_all <;> split <;> simp_all <;> omega))))
def cn_Bt (x : Bt) : Nat := 1 + 1 + cn_Ets x.set
theorem cn_Bt_pos (x : Bt) : 1 ≤ cn_Bt x := by unfold cn_Bt;omega
def cn_Bts (l : List Bt) : Nat := wS cn_Bt l
theorem cn_Bts_len {l : List Bt} : l.length ≤ cn_Bts l := wS_len cn_Bt_pos
def mk_Bt (k : Int) (x : Bt) : Bt := ⟨k,k + 1,mk_Ets (k + 1 + 1) x.set⟩
@[simp] theorem mk_Bt_side (k : Int) (x : Bt) : (mk_Bt k x).side = k := rfl
@[simp] theorem mk_Bt_ep (k : Int) (x : Bt) : (mk_Bt k x).ep = k + 1 := rfl
@[simp] theorem mk_Bt_set (k : Int) (x : Bt) : (mk_Bt k x).set = mk_Ets (k + 1 + 1) x.set := rfl
def mk_Bts (k : Int) : List Bt → List Bt
  | [] => []
  | x :: r => mk_Bt k x :: mk_Bts (k + (cn_Bt x : Nat)) r
@[simp] theorem mk_Bts_len {k : Int} {l : List Bt} : (mk_Bts k l).length = l.length := by
  induction l generalizing k with
  | nil => rfl
  | cons x r ih => simp [mk_Bts,ih]
@[simp] theorem mk_Bts_take {k : Int} {l : List Bt} : (mk_Bts k l).take l.length = mk_Bts k l := List.take_of_length_le (by simp)
theorem mk_Bts_at {k : Int} {l : List Bt} {i : Nat} {x : Bt} (h : l[i]? = some x) : (mk_Bts k l)[i]? = some (mk_Bt (k + (cn_Bts (l.take i) : Nat)) x) := by
  induction l generalizing k i with
  | nil => simp at h
  | cons y r ih =>
    cases i with
    | zero => simp at h;subst h;simp [mk_Bts,cn_Bts]
    | succ i => simp at h;simp only [mk_Bts,List.getElem?_cons_succ,ih h,List.take_succ_cons,cn_Bts,wS_cons];congr 2;push_cast;omega
@[simp] theorem alike_bts (t u : Bool) (a b : List Bt) : V.alikeL (bts t a) (bts u b) = decide (a.length = b.length) := alikeL_map (fun _ _ => rfl)
theorem l_mk_Bts (k : Int) (l : List Bt) (hk : 0 ≤ k) (hb : k + (cn_Bts l : Nat) < 1000000000000000000) : ∀ x : Nat × (List Bt),(x.1 ≤ l.length ∧ x.2.length = l.length ∧ x.2.take x.1 = (mk_Bts k l).take x.1 ∧ x.2.drop x.1 = l.drop x.1) → ∀ s,normE 2 (some [0,1,5]) s = ⟨[(0,.ref 0 0 l.length),(1,.int .i64 (k + (cn_Bts (l.take x.1) : Nat))),(5,.int .i64 x.1)],[(0,⟨false,true,3,bts true x.2,0⟩)],2⟩ →
 oc.loop 255 2 s = some (.exit 0,⟨[(1,.int .i64 (k + (cn_Bts l : Nat)))],[(0,⟨false,true,3,bts true (mk_Bts k l),0⟩)],2⟩) := by
 refine loop_ind (σ:=Nat × (List Bt)) (fun x => l.length - x.1) _ (fun x => ⟨[(0,.ref 0 0 l.length),(1,.int .i64 (k + (cn_Bts (l.take x.1) : Nat))),(5,.int .i64 x.1)],[(0,⟨false,true,3,bts true x.2,0⟩)],2⟩) _ ?_
 rintro ⟨i,r⟩ hi ih s hs
 simp only at hi
 refine loop_s cd255 rfl rfl hs ?_
 obtain ⟨hi1,hi2,hi3,hi4⟩ := hi
 have hlen := cn_Bts_len (l:=l)
 refine wa_ (wa_ (wc_region (w_ (m_ (h:=w_ (m_ (h:=w_ (le (h:=w_ (b_ (h:=wo_nil (e_ (h:=aft_normal (?_))))))))))))))
 refine c_ (h1:=?_) (h2:=?_)
 rotate_right 1
 focus
  intro c1
  simp at c1;obtain rfl : i = l.length := (by omega);obtain rfl : r = mk_Bts k l := (by rw [List.take_of_length_le (by omega),List.take_of_length_le (by simp)] at hi3;exact hi3)
  refine wc_exit (?_)
 rotate_right 1
 focus
  intro c1
  simp at c1;have hw := wrap_succ (i:=i) (by omega);obtain ⟨y,hx,_,_⟩ := bts_cut (t:=false) (l:=l) (i:=i) c1;have hy : r[i]? = some y := (by have := congrArg (fun q => q[0]?) hi4;simpa [hx] using this);have g2 : (bts true r)[i]? = some (Bt.v true (y)) := (by simp [bts,hy]);have hcut := wS_cut (f:=cn_Bt) hx;have hle := wS_take (f:=cn_Bt) (l:=l) (i:=i + 1);have hcy : cn_Bt y = 1 + 1 + cn_Ets y.set := rfl;change cn_Bts (l.take (i + 1)) = cn_Bts (l.take i) + cn_Bt y at hcut;change cn_Bts (l.take (i + 1)) ≤ cn_Bts l at hle;have hw0 : IntKind.i64.wrap (k + (cn_Bts (l.take i) : Nat) + 1) = k + (cn_Bts (l.take i) : Nat) + 1 := wrap_id (by omega) (by omega);have hw1 : IntKind.i64.wrap (k + (cn_Bts (l.take i) : Nat) + 1 + 1) = k + (cn_Bts (l.take i) : Nat) + 1 + 1 := wrap_id (by omega) (by omega);have hw2 : k + (cn_Bts (l.take i) : Nat) + 1 + 1 + (cn_Ets y.set : Nat) = k + ((cn_Bts (l.take (i + 1)) : Nat) : Int) := (by rw [hcut];omega)
  refine wc_skip (?_)
 all_goals first
 | refine aft_exit ?_
 | (
  refine aft_normal ?_
  refine wa_ (wc_block (wa_ (wc_region (w_ (m_ (h:=w_ (m_ (h:=w_ (m_ (h:=w_ (x_ (h:=w_ (f_ (h:=w0 (s_ (h:=wo_nil (e_ (h:=aft_normal (?_)))))))))))))))))))
  refine wa_ (wc_region (w_ (m_ (h:=w_ (b_ (h:=w_ (a_ (h:=wo_nil (e_ (h:=aft_normal (wa_ (wc_region (w_ (m_ (h:=w_ (m_ (h:=w_ (m_ (h:=?_)))))))))))))))))))
  refine w_ (x_ (h:=w_ (f_ (h:=w0 (s_ (h:=wo_nil (e_ (h:=aft_normal (wa_ (wc_region (w_ (m_ (h:=w_ (b_ (h:=w_ (a_ (h:=wo_nil (e_ (h:=aft_normal (?_))))))))))))))))))))
  refine wc_region (w_ (m_ (h:=w_ (m_ (h:=w_ (x_ (h:=w_ (f_ (h:=w_ (l_ (h:=w_ (m_ (h:=?_)))))))))))))
  first | refine ip (hc:=(by (try simp only [hw0,hw1,hw2]);exact mkf_Ets (k + (cn_Bts (l.take i) : Nat) + 1 + 1) y.set (by omega) (by omega))) (h:=?_) | refine iq (hc:=(by (try simp only [hw0,hw1,hw2]);exact mkf_Ets (k + (cn_Bts (l.take i) : Nat) + 1 + 1) y.set (by omega) (by omega))) (h:=?_)
  refine w_ (a_ (h:=wo_nil (e_ (h:=blk_normal (aft_normal (wc_region (w_ (m_ (h:=w_ (b_ (h:=w_ (a_ (h:=wo_nil (e_ (h:=?_)))))))))))))))
  )
 all_goals first
 | (refine (ih ((i + 1,r.set i (mk_Bt (k + (cn_Bts (l.take i) : Nat)) y))) (⟨by simp;omega,by simpa using hi2,set_take hi3 (by simpa using hi2) (mk_Bts_at hx),set_drop hi4⟩) ?_ _ ?_).trans ?_;(focus (first | omega | (simp;done) | (simp;omega)));(focus (simp [normE,hw,hw0,hw1,hw2,mk_Bt];done));(focus (rfl)))
 | (apply end_leaf (ex:=(Ext.exit 0)) 2 (some [1]);(focus (simp [normE];rfl));(focus (simp)))
theorem mkf_Bts (k : Int) (l : List Bt) (hk : 0 ≤ k) (hb : k + (cn_Bts l : Nat) < 1000000000000000000) : oc.call 255 [.iol 3 (bts true l),.int .i64 k] = some (.int .i64 (k + (cn_Bts l : Nat)),[.lst true 3 (bts true (mk_Bts k l))]) := by
 refine fun_s rfl cd255 rfl rfl rfl (by simp;rfl) (by simp;rfl) ?_
 refine wa_ (wc_region (w_ (a_ (h:=wo_nil (e_ (h:=aft_normal (wa_ (wa_ (wc_region (w_ (a_ (h:=wo_nil (e_ (h:=aft_normal (wc_block (?_))))))))))))))))
 refine wc_loop (l_mk_Bts k l hk hb (0,l) (by simp) _ (by simp [normE,cn_Bts])) ?_
 refine blk_exit (aft_normal (wa_ (wc_region (w_ (m_ (h:=w_ (a_ (h:=wo_nil (e_ (h:=aft_normal (wc_ret (?_))))))))))))
 all_goals (refine fin_ (hr:=(res_tmp rfl res_nil)) (h:=?_);(focus (first | (simp_all;done) | (simp_all <;> omega) | (simp_all <;> split <;> simp_all <;> omega))))
theorem l_held_Bts (k : Int) (l : List Bt) (hk : 0 ≤ k) (hb : k + (cn_Bts l : Nat) < 1000000000000000000) : ∀ i : Nat,(i ≤ l.length) → ∀ s,normE 2 (some [0,1,5]) s = ⟨[(0,.lst false 0 (bts false (mk_Bts k l))),(1,.int .i64 (k + (cn_Bts (l.take i) : Nat))),(5,.int .i64 i)],[],2⟩ →
 oc.loop 256 2 s = some (.exit 0,⟨[(1,.int .i64 (k + (cn_Bts l : Nat)))],[],2⟩) := by
 refine loop_ind (σ:=Nat) (fun i => l.length - i) _ (fun i => ⟨[(0,.lst false 0 (bts false (mk_Bts k l))),(1,.int .i64 (k + (cn_Bts (l.take i) : Nat))),(5,.int .i64 i)],[],2⟩) _ ?_
 intro i hi ih s hs
 refine loop_s cd256 rfl rfl hs ?_
 have hlen := cn_Bts_len (l:=l)
 refine wa_ (wa_ (wc_region (w_ (m_ (h:=w_ (m_ (h:=w_ (le (h:=w_ (b_ (h:=wo_nil (e_ (h:=aft_normal (?_))))))))))))))
 refine c_ (h1:=?_) (h2:=?_)
 rotate_right 1
 focus
  intro c1
  first
  | exact dn c1
  | (
   have d1 := c1;try simp at d1
   obtain rfl : i = l.length := (by omega)
   refine wc_exit (?_)
   )
 rotate_right 1
 focus
  intro c1
  first
  | exact dn c1
  | (
   have d1 := c1;try simp at d1
   have hc1 : i < l.length := (by simpa using d1);have hw := wrap_succ (i:=i) (by omega);obtain ⟨y,hx,_,_⟩ := bts_cut (t:=false) (l:=l) (i:=i) hc1;have g2 : (bts false (mk_Bts k l))[i]? = some (Bt.v false (mk_Bt (k + (cn_Bts (l.take i) : Nat)) y)) := (by simp [bts,mk_Bts_at hx]);have hcut := wS_cut (f:=cn_Bt) hx;have hle := wS_take (f:=cn_Bt) (l:=l) (i:=i + 1);have hcy : cn_Bt y = 1 + 1 + cn_Ets y.set := rfl;change cn_Bts (l.take (i + 1)) = cn_Bts (l.take i) + cn_Bt y at hcut;change cn_Bts (l.take (i + 1)) ≤ cn_Bts l at hle;have hw0 : IntKind.i64.wrap (k + (cn_Bts (l.take i) : Nat) + 1) = k + (cn_Bts (l.take i) : Nat) + 1 := wrap_id (by omega) (by omega);have hw1 : IntKind.i64.wrap (k + (cn_Bts (l.take i) : Nat) + 1 + 1) = k + (cn_Bts (l.take i) : Nat) + 1 + 1 := wrap_id (by omega) (by omega);have hw2 : k + (cn_Bts (l.take i) : Nat) + 1 + 1 + (cn_Ets y.set : Nat) = k + ((cn_Bts (l.take (i + 1)) : Nat) : Int) := (by rw [hcut];omega)
   refine wc_skip (?_)
   )
 all_goals first
 | refine aft_exit ?_
 | (
  refine aft_normal ?_
  refine wa_ (wc_block (wa_ (wa_ (wc_region (w_ (m_ (h:=w_ (m_ (h:=w_ (x_ (h:=w_ (f_ (h:=w_ (l_ (h:=w_ (m_ (h:=w_ (bE (h:=?_)))))))))))))))))))
  refine wo_nil (e_ (h:=aft_normal (?_)))
  refine c_ (h1:=?_) (h2:=?_)
  rotate_right 1
  focus
   intro c2
   first
   | exact dn c2
   | (
    have d2 := c2;try simp at d2
    refine wc_skip (?_)
    )
  rotate_right 1
  focus
   intro c2
   first
   | exact dn c2
   | (
    have d2 := c2;try simp at d2
    refine wa_ (wc_region (w_ (a_ (h:=wo_nil (e_ (h:=aft_normal (wc_ret (?_))))))))
    )
  all_goals first
  | refine aft_ret ?_
  | (
   refine aft_normal ?_
   refine wa_ (wc_region (w_ (m_ (h:=w_ (b_ (h:=w_ (a_ (h:=wo_nil (e_ (h:=aft_normal (wa_ (wa_ (wc_region (w_ (m_ (h:=w_ (m_ (h:=?_))))))))))))))))))
   refine w_ (x_ (h:=w_ (f_ (h:=w_ (l_ (h:=w_ (m_ (h:=w_ (bE (h:=wo_nil (e_ (h:=aft_normal (?_)))))))))))))
   refine c_ (h1:=?_) (h2:=?_)
   rotate_right 1
   focus
    intro c3
    first
    | exact dn c3
    | (
     have d3 := c3;try simp at d3
     refine wc_skip (?_)
     )
   rotate_right 1
   focus
    intro c3
    first
    | exact dn c3
    | (
     have d3 := c3;try simp at d3
     refine wa_ (wc_region (w_ (a_ (h:=wo_nil (e_ (h:=aft_normal (wc_ret (?_))))))))
     )
   all_goals first
   | refine aft_ret ?_
   | (
    refine aft_normal ?_
    refine wa_ (wc_region (w_ (m_ (h:=w_ (b_ (h:=w_ (a_ (h:=wo_nil (e_ (h:=aft_normal (wa_ (wc_region (w_ (m_ (h:=w_ (m_ (h:=w_ (x_ (h:=?_)))))))))))))))))))
    refine w_ (f_ (h:=w_ (l_ (h:=w_ (m_ (h:=w_ (ca (hc:=(by (try simp only [hw0,hw1,hw2]);exact held_Ets (k + (cn_Bts (l.take i) : Nat) + 1 + 1) y.set (by omega) (by omega))) (h:=w_ (a_ (h:=wo_nil (e_ (h:=aft_normal (wa_ (wc_region (w_ (m_ (h:=w_ (b_ (h:=wo_nil (e_ (h:=?_)))))))))))))))))))))
    refine aft_normal (?_)
    refine c_ (h1:=?_) (h2:=?_)
    rotate_right 1
    focus
     intro c4
     first
     | exact dn c4
     | (
      have d4 := c4;try simp at d4
      refine wc_skip (?_)
      )
    rotate_right 1
    focus
     intro c4
     first
     | exact dn c4
     | (
      have d4 := c4;try simp at d4
      refine wa_ (wc_region (w_ (a_ (h:=wo_nil (e_ (h:=aft_normal (wc_ret (?_))))))))
      )
    )
   )
  all_goals first | refine blk_normal ?_ | refine blk_ret ?_
  all_goals first
  | refine aft_ret ?_
  | (
   refine aft_normal ?_
   refine wc_region (w_ (m_ (h:=w_ (b_ (h:=w_ (a_ (h:=wo_nil (e_ (h:=?_)))))))))
   )
  )
 all_goals first
 | (refine (ih (i + 1) (by omega) ?_ _ ?_).trans ?_;(focus (first | omega | (simp;done) | (simp;omega)));(focus (simp [normE,hw,hw0,hw1,hw2];done));(focus (rfl)))
 | (apply end_leaf (ex:=(Ext.exit 0)) 2 (some [1,4]);(focus (simp [normE];rfl));(focus (simp)))
 | (apply end_leaf (ex:=Ext.ret) 2 (some [1,4]);(focus (simp [normE];rfl));(focus (exfalso;clear ih hs hw;simp only [hw0,hw1] at *;simp at *)))
theorem held_Bts (k : Int) (l : List Bt) (hk : 0 ≤ k) (hb : k + (cn_Bts l : Nat) < 1000000000000000000) : oc.call 256 [.lst false 0 (bts false (mk_Bts k l)),.int .i64 k] = some (.int .i64 (k + (cn_Bts l : Nat)),[]) := by
 refine fun_s rfl cd256 rfl rfl rfl (by simp;rfl) (by simp;rfl) ?_
 refine wa_ (wc_region (w_ (a_ (h:=wo_nil (e_ (h:=aft_normal (wa_ (wa_ (wc_region (w_ (a_ (h:=wo_nil (e_ (h:=aft_normal (wc_block (?_))))))))))))))))
 refine wc_loop (l_held_Bts k l hk hb 0 (by omega) _ (by simp [normE,cn_Bts])) ?_
 first | refine blk_ret ?_ | refine blk_exit ?_
 all_goals first
 | refine aft_ret ?_
 | (
  refine aft_normal ?_
  refine wa_ (wc_region (w_ (m_ (h:=w_ (a_ (h:=wo_nil (e_ (h:=aft_normal (wc_ret (?_))))))))))
  )
 all_goals (refine fin_ (hr:=(res_tmp rfl res_nil)) (h:=?_);(focus (first | (simp_all;done) | (simp_all <;> omega) | (simp_all <;> split <;> simp_all <;> omega))))
def cn_Hd (x : Hd) : Nat := cn_Ets x.oldA + cn_Ets x.oldB + cn_Bts x.waits + 1
theorem cn_Hd_pos (x : Hd) : 1 ≤ cn_Hd x := by unfold cn_Hd;omega
def cn_Hds (l : List Hd) : Nat := wS cn_Hd l
theorem cn_Hds_len {l : List Hd} : l.length ≤ cn_Hds l := wS_len cn_Hd_pos
def mk_Hd (k : Int) (x : Hd) : Hd := ⟨mk_Ets (k) x.oldA,mk_Ets (k + (cn_Ets x.oldA : Nat)) x.oldB,mk_Bts (k + (cn_Ets x.oldA : Nat) + (cn_Ets x.oldB : Nat)) x.waits,k + (cn_Ets x.oldA : Nat) + (cn_Ets x.oldB : Nat) + (cn_Bts x.waits : Nat)⟩
@[simp] theorem mk_Hd_oldA (k : Int) (x : Hd) : (mk_Hd k x).oldA = mk_Ets (k) x.oldA := rfl
@[simp] theorem mk_Hd_oldB (k : Int) (x : Hd) : (mk_Hd k x).oldB = mk_Ets (k + (cn_Ets x.oldA : Nat)) x.oldB := rfl
@[simp] theorem mk_Hd_waits (k : Int) (x : Hd) : (mk_Hd k x).waits = mk_Bts (k + (cn_Ets x.oldA : Nat) + (cn_Ets x.oldB : Nat)) x.waits := rfl
@[simp] theorem mk_Hd_told (k : Int) (x : Hd) : (mk_Hd k x).told = k + (cn_Ets x.oldA : Nat) + (cn_Ets x.oldB : Nat) + (cn_Bts x.waits : Nat) := rfl
def mk_Hds (k : Int) : List Hd → List Hd
  | [] => []
  | x :: r => mk_Hd k x :: mk_Hds (k + (cn_Hd x : Nat)) r
@[simp] theorem mk_Hds_len {k : Int} {l : List Hd} : (mk_Hds k l).length = l.length := by
  induction l generalizing k with
  | nil => rfl
  | cons x r ih => simp [mk_Hds,ih]
@[simp] theorem mk_Hds_take {k : Int} {l : List Hd} : (mk_Hds k l).take l.length = mk_Hds k l := List.take_of_length_le (by simp)
theorem mk_Hds_at {k : Int} {l : List Hd} {i : Nat} {x : Hd} (h : l[i]? = some x) : (mk_Hds k l)[i]? = some (mk_Hd (k + (cn_Hds (l.take i) : Nat)) x) := by
  induction l generalizing k i with
  | nil => simp at h
  | cons y r ih =>
    cases i with
    | zero => simp at h;subst h;simp [mk_Hds,cn_Hds]
    | succ i => simp at h;simp only [mk_Hds,List.getElem?_cons_succ,ih h,List.take_succ_cons,cn_Hds,wS_cons];congr 2;push_cast;omega
@[simp] theorem alike_hds (t u : Bool) (a b : List Hd) : V.alikeL (hds t a) (hds u b) = decide (a.length = b.length) := alikeL_map (fun _ _ => rfl)
theorem l_mk_Hds (k : Int) (l : List Hd) (hk : 0 ≤ k) (hb : k + (cn_Hds l : Nat) < 1000000000000000000) : ∀ x : Nat × (List Hd),(x.1 ≤ l.length ∧ x.2.length = l.length ∧ x.2.take x.1 = (mk_Hds k l).take x.1 ∧ x.2.drop x.1 = l.drop x.1) → ∀ s,normE 2 (some [0,1,5]) s = ⟨[(0,.ref 0 0 l.length),(1,.int .i64 (k + (cn_Hds (l.take x.1) : Nat))),(5,.int .i64 x.1)],[(0,⟨false,true,4,hds true x.2,0⟩)],2⟩ →
 oc.loop 239 2 s = some (.exit 0,⟨[(1,.int .i64 (k + (cn_Hds l : Nat)))],[(0,⟨false,true,4,hds true (mk_Hds k l),0⟩)],2⟩) := by
 refine loop_ind (σ:=Nat × (List Hd)) (fun x => l.length - x.1) _ (fun x => ⟨[(0,.ref 0 0 l.length),(1,.int .i64 (k + (cn_Hds (l.take x.1) : Nat))),(5,.int .i64 x.1)],[(0,⟨false,true,4,hds true x.2,0⟩)],2⟩) _ ?_
 rintro ⟨i,r⟩ hi ih s hs
 simp only at hi
 refine loop_s cd239 rfl rfl hs ?_
 obtain ⟨hi1,hi2,hi3,hi4⟩ := hi
 have hlen := cn_Hds_len (l:=l)
 refine wa_ (wa_ (wc_region (w_ (m_ (h:=w_ (m_ (h:=w_ (le (h:=w_ (b_ (h:=wo_nil (e_ (h:=aft_normal (?_))))))))))))))
 refine c_ (h1:=?_) (h2:=?_)
 rotate_right 1
 focus
  intro c1
  simp at c1;obtain rfl : i = l.length := (by omega);obtain rfl : r = mk_Hds k l := (by rw [List.take_of_length_le (by omega),List.take_of_length_le (by simp)] at hi3;exact hi3)
  refine wc_exit (?_)
 rotate_right 1
 focus
  intro c1
  simp at c1;have hw := wrap_succ (i:=i) (by omega);obtain ⟨y,hx,_,_⟩ := hds_cut (t:=false) (l:=l) (i:=i) c1;have hy : r[i]? = some y := (by have := congrArg (fun q => q[0]?) hi4;simpa [hx] using this);have g2 : (hds true r)[i]? = some (Hd.v true (y)) := (by simp [hds,hy]);have hcut := wS_cut (f:=cn_Hd) hx;have hle := wS_take (f:=cn_Hd) (l:=l) (i:=i + 1);have hcy : cn_Hd y = cn_Ets y.oldA + cn_Ets y.oldB + cn_Bts y.waits + 1 := rfl;change cn_Hds (l.take (i + 1)) = cn_Hds (l.take i) + cn_Hd y at hcut;change cn_Hds (l.take (i + 1)) ≤ cn_Hds l at hle;have hw3 : IntKind.i64.wrap (k + (cn_Hds (l.take i) : Nat) + (cn_Ets y.oldA : Nat) + (cn_Ets y.oldB : Nat) + (cn_Bts y.waits : Nat) + 1) = k + ((cn_Hds (l.take (i + 1)) : Nat) : Int) := (by rw [hcut];exact (wrap_id (by omega) (by omega)).trans (by omega))
  refine wc_skip (?_)
 all_goals first
 | refine aft_exit ?_
 | (
  refine aft_normal ?_
  refine wa_ (wc_block (wa_ (wc_region (w_ (m_ (h:=w_ (m_ (h:=w_ (x_ (h:=w_ (f_ (h:=w_ (l_ (h:=w_ (m_ (h:=?_))))))))))))))))
  first | refine ip (hc:=(by (try simp only [hw3]);exact mkf_Ets (k + (cn_Hds (l.take i) : Nat)) y.oldA (by omega) (by omega))) (h:=?_) | refine iq (hc:=(by (try simp only [hw3]);exact mkf_Ets (k + (cn_Hds (l.take i) : Nat)) y.oldA (by omega) (by omega))) (h:=?_)
  refine w_ (a_ (h:=wo_nil (e_ (h:=aft_normal (wa_ (wc_region (w_ (m_ (h:=w_ (m_ (h:=w_ (x_ (h:=w_ (f_ (h:=w_ (l_ (h:=w_ (m_ (h:=?_)))))))))))))))))))
  first | refine ip (hc:=(by (try simp only [hw3]);exact mkf_Ets (k + (cn_Hds (l.take i) : Nat) + (cn_Ets y.oldA : Nat)) y.oldB (by omega) (by omega))) (h:=?_) | refine iq (hc:=(by (try simp only [hw3]);exact mkf_Ets (k + (cn_Hds (l.take i) : Nat) + (cn_Ets y.oldA : Nat)) y.oldB (by omega) (by omega))) (h:=?_)
  refine w_ (a_ (h:=wo_nil (e_ (h:=aft_normal (wa_ (wc_region (w_ (m_ (h:=w_ (m_ (h:=w_ (x_ (h:=w_ (f_ (h:=w_ (l_ (h:=w_ (m_ (h:=?_)))))))))))))))))))
  first | refine ip (hc:=(by (try simp only [hw3]);exact mkf_Bts (k + (cn_Hds (l.take i) : Nat) + (cn_Ets y.oldA : Nat) + (cn_Ets y.oldB : Nat)) y.waits (by omega) (by omega))) (h:=?_) | refine iq (hc:=(by (try simp only [hw3]);exact mkf_Bts (k + (cn_Hds (l.take i) : Nat) + (cn_Ets y.oldA : Nat) + (cn_Ets y.oldB : Nat)) y.waits (by omega) (by omega))) (h:=?_)
  refine w_ (a_ (h:=wo_nil (e_ (h:=aft_normal (wa_ (wc_region (w_ (m_ (h:=w_ (m_ (h:=w_ (m_ (h:=w_ (x_ (h:=w_ (f_ (h:=w0 (s_ (h:=wo_nil (e_ (h:=?_)))))))))))))))))))))
  refine aft_normal (wc_region (w_ (m_ (h:=w_ (b_ (h:=w_ (a_ (h:=wo_nil (e_ (h:=blk_normal (aft_normal (wc_region (w_ (m_ (h:=w_ (b_ (h:=w_ (a_ (h:=?_)))))))))))))))))))
  refine wo_nil (e_ (h:=?_))
  )
 all_goals first
 | (refine (ih ((i + 1,r.set i (mk_Hd (k + (cn_Hds (l.take i) : Nat)) y))) (⟨by simp;omega,by simpa using hi2,set_take hi3 (by simpa using hi2) (mk_Hds_at hx),set_drop hi4⟩) ?_ _ ?_).trans ?_;(focus (first | omega | (simp;done) | (simp;omega)));(focus (simp [normE,hw,hw3,mk_Hd];done));(focus (rfl)))
 | (apply end_leaf (ex:=(Ext.exit 0)) 2 (some [1]);(focus (simp [normE];rfl));(focus (simp)))
theorem mkf_Hds (k : Int) (l : List Hd) (hk : 0 ≤ k) (hb : k + (cn_Hds l : Nat) < 1000000000000000000) : oc.call 239 [.iol 4 (hds true l),.int .i64 k] = some (.int .i64 (k + (cn_Hds l : Nat)),[.lst true 4 (hds true (mk_Hds k l))]) := by
 refine fun_s rfl cd239 rfl rfl rfl (by simp;rfl) (by simp;rfl) ?_
 refine wa_ (wc_region (w_ (a_ (h:=wo_nil (e_ (h:=aft_normal (wa_ (wa_ (wc_region (w_ (a_ (h:=wo_nil (e_ (h:=aft_normal (wc_block (?_))))))))))))))))
 refine wc_loop (l_mk_Hds k l hk hb (0,l) (by simp) _ (by simp [normE,cn_Hds])) ?_
 refine blk_exit (aft_normal (wa_ (wc_region (w_ (m_ (h:=w_ (a_ (h:=wo_nil (e_ (h:=aft_normal (wc_ret (?_))))))))))))
 all_goals (refine fin_ (hr:=(res_tmp rfl res_nil)) (h:=?_);(focus (first | (simp_all;done) | (simp_all <;> omega) | (simp_all <;> split <;> simp_all <;> omega))))
theorem l_held_Hds (k : Int) (l : List Hd) (hk : 0 ≤ k) (hb : k + (cn_Hds l : Nat) < 1000000000000000000) : ∀ i : Nat,(i ≤ l.length) → ∀ s,normE 2 (some [0,1,5]) s = ⟨[(0,.lst false 0 (hds false (mk_Hds k l))),(1,.int .i64 (k + (cn_Hds (l.take i) : Nat))),(5,.int .i64 i)],[],2⟩ →
 oc.loop 242 2 s = some (.exit 0,⟨[(1,.int .i64 (k + (cn_Hds l : Nat)))],[],2⟩) := by
 refine loop_ind (σ:=Nat) (fun i => l.length - i) _ (fun i => ⟨[(0,.lst false 0 (hds false (mk_Hds k l))),(1,.int .i64 (k + (cn_Hds (l.take i) : Nat))),(5,.int .i64 i)],[],2⟩) _ ?_
 intro i hi ih s hs
 refine loop_s cd242 rfl rfl hs ?_
 have hlen := cn_Hds_len (l:=l)
 refine wa_ (wa_ (wc_region (w_ (m_ (h:=w_ (m_ (h:=w_ (le (h:=w_ (b_ (h:=wo_nil (e_ (h:=aft_normal (?_))))))))))))))
 refine c_ (h1:=?_) (h2:=?_)
 rotate_right 1
 focus
  intro c1
  first
  | exact dn c1
  | (
   have d1 := c1;try simp at d1
   obtain rfl : i = l.length := (by omega)
   refine wc_exit (?_)
   )
 rotate_right 1
 focus
  intro c1
  first
  | exact dn c1
  | (
   have d1 := c1;try simp at d1
   have hc1 : i < l.length := (by simpa using d1);have hw := wrap_succ (i:=i) (by omega);obtain ⟨y,hx,_,_⟩ := hds_cut (t:=false) (l:=l) (i:=i) hc1;have g2 : (hds false (mk_Hds k l))[i]? = some (Hd.v false (mk_Hd (k + (cn_Hds (l.take i) : Nat)) y)) := (by simp [hds,mk_Hds_at hx]);have hcut := wS_cut (f:=cn_Hd) hx;have hle := wS_take (f:=cn_Hd) (l:=l) (i:=i + 1);have hcy : cn_Hd y = cn_Ets y.oldA + cn_Ets y.oldB + cn_Bts y.waits + 1 := rfl;change cn_Hds (l.take (i + 1)) = cn_Hds (l.take i) + cn_Hd y at hcut;change cn_Hds (l.take (i + 1)) ≤ cn_Hds l at hle;have hw3 : IntKind.i64.wrap (k + (cn_Hds (l.take i) : Nat) + (cn_Ets y.oldA : Nat) + (cn_Ets y.oldB : Nat) + (cn_Bts y.waits : Nat) + 1) = k + ((cn_Hds (l.take (i + 1)) : Nat) : Int) := (by rw [hcut];exact (wrap_id (by omega) (by omega)).trans (by omega))
   refine wc_skip (?_)
   )
 all_goals first
 | refine aft_exit ?_
 | (
  refine aft_normal ?_
  refine wa_ (wc_block (wa_ (wc_region (w_ (m_ (h:=w_ (m_ (h:=w_ (x_ (h:=w_ (f_ (h:=w_ (l_ (h:=w_ (m_ (h:=w_ (ca (hc:=(by (try simp only [hw3]);exact held_Ets (k + (cn_Hds (l.take i) : Nat)) y.oldA (by omega) (by omega))) (h:=w_ (a_ (h:=?_))))))))))))))))))))
  refine wo_nil (e_ (h:=aft_normal (wa_ (wa_ (wc_region (w_ (m_ (h:=w_ (b_ (h:=wo_nil (e_ (h:=aft_normal (?_)))))))))))))
  refine c_ (h1:=?_) (h2:=?_)
  rotate_right 1
  focus
   intro c2
   first
   | exact dn c2
   | (
    have d2 := c2;try simp at d2
    refine wc_skip (?_)
    )
  rotate_right 1
  focus
   intro c2
   first
   | exact dn c2
   | (
    have d2 := c2;try simp at d2
    refine wa_ (wc_region (w_ (a_ (h:=wo_nil (e_ (h:=aft_normal (wc_ret (?_))))))))
    )
  all_goals first
  | refine aft_ret ?_
  | (
   refine aft_normal ?_
   refine wa_ (wc_region (w_ (m_ (h:=w_ (m_ (h:=w_ (x_ (h:=w_ (f_ (h:=w_ (l_ (h:=w_ (m_ (h:=w_ (ca (hc:=(by (try simp only [hw3]);exact held_Ets (k + (cn_Hds (l.take i) : Nat) + (cn_Ets y.oldA : Nat)) y.oldB (by omega) (by omega))) (h:=w_ (a_ (h:=wo_nil (e_ (h:=aft_normal (?_)))))))))))))))))))))
   refine wa_ (wa_ (wc_region (w_ (m_ (h:=w_ (b_ (h:=wo_nil (e_ (h:=aft_normal (?_))))))))))
   refine c_ (h1:=?_) (h2:=?_)
   rotate_right 1
   focus
    intro c3
    first
    | exact dn c3
    | (
     have d3 := c3;try simp at d3
     refine wc_skip (?_)
     )
   rotate_right 1
   focus
    intro c3
    first
    | exact dn c3
    | (
     have d3 := c3;try simp at d3
     refine wa_ (wc_region (w_ (a_ (h:=wo_nil (e_ (h:=aft_normal (wc_ret (?_))))))))
     )
   all_goals first
   | refine aft_ret ?_
   | (
    refine aft_normal ?_
    refine wa_ (wc_region (w_ (m_ (h:=w_ (m_ (h:=w_ (x_ (h:=w_ (f_ (h:=w_ (l_ (h:=w_ (m_ (h:=w_ (ca (hc:=(by (try simp only [hw3]);exact held_Bts (k + (cn_Hds (l.take i) : Nat) + (cn_Ets y.oldA : Nat) + (cn_Ets y.oldB : Nat)) y.waits (by omega) (by omega))) (h:=w_ (a_ (h:=wo_nil (e_ (h:=aft_normal (?_)))))))))))))))))))))
    refine wa_ (wa_ (wc_region (w_ (m_ (h:=w_ (b_ (h:=wo_nil (e_ (h:=aft_normal (?_))))))))))
    refine c_ (h1:=?_) (h2:=?_)
    rotate_right 1
    focus
     intro c4
     first
     | exact dn c4
     | (
      have d4 := c4;try simp at d4
      refine wc_skip (?_)
      )
    rotate_right 1
    focus
     intro c4
     first
     | exact dn c4
     | (
      have d4 := c4;try simp at d4
      refine wa_ (wc_region (w_ (a_ (h:=wo_nil (e_ (h:=aft_normal (wc_ret (?_))))))))
      )
    all_goals first
    | refine aft_ret ?_
    | (
     refine aft_normal ?_
     refine wa_ (wa_ (wc_region (w_ (m_ (h:=w_ (m_ (h:=w_ (x_ (h:=w_ (f_ (h:=w_ (l_ (h:=w_ (m_ (h:=w_ (bE (h:=wo_nil (e_ (h:=aft_normal (?_))))))))))))))))))))
     refine c_ (h1:=?_) (h2:=?_)
     rotate_right 1
     focus
      intro c5
      first
      | exact dn c5
      | (
       have d5 := c5;try simp at d5
       refine wc_skip (?_)
       )
     rotate_right 1
     focus
      intro c5
      first
      | exact dn c5
      | (
       have d5 := c5;try simp at d5
       refine wa_ (wc_region (w_ (a_ (h:=wo_nil (e_ (h:=aft_normal (wc_ret (?_))))))))
       )
     all_goals first
     | refine aft_ret ?_
     | (
      refine aft_normal ?_
      refine wc_region (w_ (m_ (h:=w_ (b_ (h:=w_ (a_ (h:=wo_nil (e_ (h:=?_)))))))))
      )
     )
    )
   )
  all_goals first | refine blk_normal ?_ | refine blk_ret ?_
  all_goals first
  | refine aft_ret ?_
  | (
   refine aft_normal ?_
   refine wc_region (w_ (m_ (h:=w_ (b_ (h:=w_ (a_ (h:=wo_nil (e_ (h:=?_)))))))))
   )
  )
 all_goals first
 | (refine (ih (i + 1) (by omega) ?_ _ ?_).trans ?_;(focus (first | omega | (simp;done) | (simp;omega)));(focus (simp [normE,hw,hw3];done));(focus (rfl)))
 | (apply end_leaf (ex:=(Ext.exit 0)) 2 (some [1,4]);(focus (simp [normE];rfl));(focus (simp)))
 | (apply end_leaf (ex:=Ext.ret) 2 (some [1,4]);(focus (simp [normE];rfl));(focus (exfalso;omega)))
theorem held_Hds (k : Int) (l : List Hd) (hk : 0 ≤ k) (hb : k + (cn_Hds l : Nat) < 1000000000000000000) : oc.call 242 [.lst false 0 (hds false (mk_Hds k l)),.int .i64 k] = some (.int .i64 (k + (cn_Hds l : Nat)),[]) := by
 refine fun_s rfl cd242 rfl rfl rfl (by simp;rfl) (by simp;rfl) ?_
 refine wa_ (wc_region (w_ (a_ (h:=wo_nil (e_ (h:=aft_normal (wa_ (wa_ (wc_region (w_ (a_ (h:=wo_nil (e_ (h:=aft_normal (wc_block (?_))))))))))))))))
 refine wc_loop (l_held_Hds k l hk hb 0 (by omega) _ (by simp [normE,cn_Hds])) ?_
 first | refine blk_ret ?_ | refine blk_exit ?_
 all_goals first
 | refine aft_ret ?_
 | (
  refine aft_normal ?_
  refine wa_ (wc_region (w_ (m_ (h:=w_ (a_ (h:=wo_nil (e_ (h:=aft_normal (wc_ret (?_))))))))))
  )
 all_goals (refine fin_ (hr:=(res_tmp rfl res_nil)) (h:=?_);(focus (first | (simp_all;done) | (simp_all <;> omega) | (simp_all <;> split <;> simp_all <;> omega))))
def cn_Rl (x : Rl) : Nat := 1 + 1 + cn_Ets x.set
theorem cn_Rl_pos (x : Rl) : 1 ≤ cn_Rl x := by unfold cn_Rl;omega
def cn_Rls (l : List Rl) : Nat := wS cn_Rl l
theorem cn_Rls_len {l : List Rl} : l.length ≤ cn_Rls l := wS_len cn_Rl_pos
def mk_Rl (k : Int) (x : Rl) : Rl := ⟨k,k + 1,mk_Ets (k + 1 + 1) x.set⟩
@[simp] theorem mk_Rl_node (k : Int) (x : Rl) : (mk_Rl k x).node = k := rfl
@[simp] theorem mk_Rl_ep (k : Int) (x : Rl) : (mk_Rl k x).ep = k + 1 := rfl
@[simp] theorem mk_Rl_set (k : Int) (x : Rl) : (mk_Rl k x).set = mk_Ets (k + 1 + 1) x.set := rfl
def mk_Rls (k : Int) : List Rl → List Rl
  | [] => []
  | x :: r => mk_Rl k x :: mk_Rls (k + (cn_Rl x : Nat)) r
@[simp] theorem mk_Rls_len {k : Int} {l : List Rl} : (mk_Rls k l).length = l.length := by
  induction l generalizing k with
  | nil => rfl
  | cons x r ih => simp [mk_Rls,ih]
@[simp] theorem mk_Rls_take {k : Int} {l : List Rl} : (mk_Rls k l).take l.length = mk_Rls k l := List.take_of_length_le (by simp)
theorem mk_Rls_at {k : Int} {l : List Rl} {i : Nat} {x : Rl} (h : l[i]? = some x) : (mk_Rls k l)[i]? = some (mk_Rl (k + (cn_Rls (l.take i) : Nat)) x) := by
  induction l generalizing k i with
  | nil => simp at h
  | cons y r ih =>
    cases i with
    | zero => simp at h;subst h;simp [mk_Rls,cn_Rls]
    | succ i => simp at h;simp only [mk_Rls,List.getElem?_cons_succ,ih h,List.take_succ_cons,cn_Rls,wS_cons];congr 2;push_cast;omega
@[simp] theorem alike_rls (t u : Bool) (a b : List Rl) : V.alikeL (rls t a) (rls u b) = decide (a.length = b.length) := alikeL_map (fun _ _ => rfl)
theorem l_mk_Rls (k : Int) (l : List Rl) (hk : 0 ≤ k) (hb : k + (cn_Rls l : Nat) < 1000000000000000000) : ∀ x : Nat × (List Rl),(x.1 ≤ l.length ∧ x.2.length = l.length ∧ x.2.take x.1 = (mk_Rls k l).take x.1 ∧ x.2.drop x.1 = l.drop x.1) → ∀ s,normE 2 (some [0,1,5]) s = ⟨[(0,.ref 0 0 l.length),(1,.int .i64 (k + (cn_Rls (l.take x.1) : Nat))),(5,.int .i64 x.1)],[(0,⟨false,true,3,rls true x.2,0⟩)],2⟩ →
 oc.loop 240 2 s = some (.exit 0,⟨[(1,.int .i64 (k + (cn_Rls l : Nat)))],[(0,⟨false,true,3,rls true (mk_Rls k l),0⟩)],2⟩) := by
 refine loop_ind (σ:=Nat × (List Rl)) (fun x => l.length - x.1) _ (fun x => ⟨[(0,.ref 0 0 l.length),(1,.int .i64 (k + (cn_Rls (l.take x.1) : Nat))),(5,.int .i64 x.1)],[(0,⟨false,true,3,rls true x.2,0⟩)],2⟩) _ ?_
 rintro ⟨i,r⟩ hi ih s hs
 simp only at hi
 refine loop_s cd240 rfl rfl hs ?_
 obtain ⟨hi1,hi2,hi3,hi4⟩ := hi
 have hlen := cn_Rls_len (l:=l)
 refine wa_ (wa_ (wc_region (w_ (m_ (h:=w_ (m_ (h:=w_ (le (h:=w_ (b_ (h:=wo_nil (e_ (h:=aft_normal (?_))))))))))))))
 refine c_ (h1:=?_) (h2:=?_)
 rotate_right 1
 focus
  intro c1
  simp at c1;obtain rfl : i = l.length := (by omega);obtain rfl : r = mk_Rls k l := (by rw [List.take_of_length_le (by omega),List.take_of_length_le (by simp)] at hi3;exact hi3)
  refine wc_exit (?_)
 rotate_right 1
 focus
  intro c1
  simp at c1;have hw := wrap_succ (i:=i) (by omega);obtain ⟨y,hx,_,_⟩ := rls_cut (t:=false) (l:=l) (i:=i) c1;have hy : r[i]? = some y := (by have := congrArg (fun q => q[0]?) hi4;simpa [hx] using this);have g2 : (rls true r)[i]? = some (Rl.v true (y)) := (by simp [rls,hy]);have hcut := wS_cut (f:=cn_Rl) hx;have hle := wS_take (f:=cn_Rl) (l:=l) (i:=i + 1);have hcy : cn_Rl y = 1 + 1 + cn_Ets y.set := rfl;change cn_Rls (l.take (i + 1)) = cn_Rls (l.take i) + cn_Rl y at hcut;change cn_Rls (l.take (i + 1)) ≤ cn_Rls l at hle;have hw0 : IntKind.i64.wrap (k + (cn_Rls (l.take i) : Nat) + 1) = k + (cn_Rls (l.take i) : Nat) + 1 := wrap_id (by omega) (by omega);have hw1 : IntKind.i64.wrap (k + (cn_Rls (l.take i) : Nat) + 1 + 1) = k + (cn_Rls (l.take i) : Nat) + 1 + 1 := wrap_id (by omega) (by omega);have hw2 : k + (cn_Rls (l.take i) : Nat) + 1 + 1 + (cn_Ets y.set : Nat) = k + ((cn_Rls (l.take (i + 1)) : Nat) : Int) := (by rw [hcut];omega)
  refine wc_skip (?_)
 all_goals first
 | refine aft_exit ?_
 | (
  refine aft_normal ?_
  refine wa_ (wc_block (wa_ (wc_region (w_ (m_ (h:=w_ (m_ (h:=w_ (m_ (h:=w_ (x_ (h:=w_ (f_ (h:=w0 (s_ (h:=wo_nil (e_ (h:=aft_normal (?_)))))))))))))))))))
  refine wa_ (wc_region (w_ (m_ (h:=w_ (b_ (h:=w_ (a_ (h:=wo_nil (e_ (h:=aft_normal (wa_ (wc_region (w_ (m_ (h:=w_ (m_ (h:=w_ (m_ (h:=?_)))))))))))))))))))
  refine w_ (x_ (h:=w_ (f_ (h:=w0 (s_ (h:=wo_nil (e_ (h:=aft_normal (wa_ (wc_region (w_ (m_ (h:=w_ (b_ (h:=w_ (a_ (h:=wo_nil (e_ (h:=aft_normal (?_))))))))))))))))))))
  refine wc_region (w_ (m_ (h:=w_ (m_ (h:=w_ (x_ (h:=w_ (f_ (h:=w_ (l_ (h:=w_ (m_ (h:=?_)))))))))))))
  first | refine ip (hc:=(by (try simp only [hw0,hw1,hw2]);exact mkf_Ets (k + (cn_Rls (l.take i) : Nat) + 1 + 1) y.set (by omega) (by omega))) (h:=?_) | refine iq (hc:=(by (try simp only [hw0,hw1,hw2]);exact mkf_Ets (k + (cn_Rls (l.take i) : Nat) + 1 + 1) y.set (by omega) (by omega))) (h:=?_)
  refine w_ (a_ (h:=wo_nil (e_ (h:=blk_normal (aft_normal (wc_region (w_ (m_ (h:=w_ (b_ (h:=w_ (a_ (h:=wo_nil (e_ (h:=?_)))))))))))))))
  )
 all_goals first
 | (refine (ih ((i + 1,r.set i (mk_Rl (k + (cn_Rls (l.take i) : Nat)) y))) (⟨by simp;omega,by simpa using hi2,set_take hi3 (by simpa using hi2) (mk_Rls_at hx),set_drop hi4⟩) ?_ _ ?_).trans ?_;(focus (first | omega | (simp;done) | (simp;omega)));(focus (simp [normE,hw,hw0,hw1,hw2,mk_Rl];done));(focus (rfl)))
 | (apply end_leaf (ex:=(Ext.exit 0)) 2 (some [1]);(focus (simp [normE];rfl));(focus (simp)))
theorem mkf_Rls (k : Int) (l : List Rl) (hk : 0 ≤ k) (hb : k + (cn_Rls l : Nat) < 1000000000000000000) : oc.call 240 [.iol 3 (rls true l),.int .i64 k] = some (.int .i64 (k + (cn_Rls l : Nat)),[.lst true 3 (rls true (mk_Rls k l))]) := by
 refine fun_s rfl cd240 rfl rfl rfl (by simp;rfl) (by simp;rfl) ?_
 refine wa_ (wc_region (w_ (a_ (h:=wo_nil (e_ (h:=aft_normal (wa_ (wa_ (wc_region (w_ (a_ (h:=wo_nil (e_ (h:=aft_normal (wc_block (?_))))))))))))))))
 refine wc_loop (l_mk_Rls k l hk hb (0,l) (by simp) _ (by simp [normE,cn_Rls])) ?_
 refine blk_exit (aft_normal (wa_ (wc_region (w_ (m_ (h:=w_ (a_ (h:=wo_nil (e_ (h:=aft_normal (wc_ret (?_))))))))))))
 all_goals (refine fin_ (hr:=(res_tmp rfl res_nil)) (h:=?_);(focus (first | (simp_all;done) | (simp_all <;> omega) | (simp_all <;> split <;> simp_all <;> omega))))
theorem l_held_Rls (k : Int) (l : List Rl) (hk : 0 ≤ k) (hb : k + (cn_Rls l : Nat) < 1000000000000000000) : ∀ i : Nat,(i ≤ l.length) → ∀ s,normE 2 (some [0,1,5]) s = ⟨[(0,.lst false 0 (rls false (mk_Rls k l))),(1,.int .i64 (k + (cn_Rls (l.take i) : Nat))),(5,.int .i64 i)],[],2⟩ →
 oc.loop 243 2 s = some (.exit 0,⟨[(1,.int .i64 (k + (cn_Rls l : Nat)))],[],2⟩) := by
 refine loop_ind (σ:=Nat) (fun i => l.length - i) _ (fun i => ⟨[(0,.lst false 0 (rls false (mk_Rls k l))),(1,.int .i64 (k + (cn_Rls (l.take i) : Nat))),(5,.int .i64 i)],[],2⟩) _ ?_
 intro i hi ih s hs
 refine loop_s cd243 rfl rfl hs ?_
 have hlen := cn_Rls_len (l:=l)
 refine wa_ (wa_ (wc_region (w_ (m_ (h:=w_ (m_ (h:=w_ (le (h:=w_ (b_ (h:=wo_nil (e_ (h:=aft_normal (?_))))))))))))))
 refine c_ (h1:=?_) (h2:=?_)
 rotate_right 1
 focus
  intro c1
  first
  | exact dn c1
  | (
   have d1 := c1;try simp at d1
   obtain rfl : i = l.length := (by omega)
   refine wc_exit (?_)
   )
 rotate_right 1
 focus
  intro c1
  first
  | exact dn c1
  | (
   have d1 := c1;try simp at d1
   have hc1 : i < l.length := (by simpa using d1);have hw := wrap_succ (i:=i) (by omega);obtain ⟨y,hx,_,_⟩ := rls_cut (t:=false) (l:=l) (i:=i) hc1;have g2 : (rls false (mk_Rls k l))[i]? = some (Rl.v false (mk_Rl (k + (cn_Rls (l.take i) : Nat)) y)) := (by simp [rls,mk_Rls_at hx]);have hcut := wS_cut (f:=cn_Rl) hx;have hle := wS_take (f:=cn_Rl) (l:=l) (i:=i + 1);have hcy : cn_Rl y = 1 + 1 + cn_Ets y.set := rfl;change cn_Rls (l.take (i + 1)) = cn_Rls (l.take i) + cn_Rl y at hcut;change cn_Rls (l.take (i + 1)) ≤ cn_Rls l at hle;have hw0 : IntKind.i64.wrap (k + (cn_Rls (l.take i) : Nat) + 1) = k + (cn_Rls (l.take i) : Nat) + 1 := wrap_id (by omega) (by omega);have hw1 : IntKind.i64.wrap (k + (cn_Rls (l.take i) : Nat) + 1 + 1) = k + (cn_Rls (l.take i) : Nat) + 1 + 1 := wrap_id (by omega) (by omega);have hw2 : k + (cn_Rls (l.take i) : Nat) + 1 + 1 + (cn_Ets y.set : Nat) = k + ((cn_Rls (l.take (i + 1)) : Nat) : Int) := (by rw [hcut];omega)
   refine wc_skip (?_)
   )
 all_goals first
 | refine aft_exit ?_
 | (
  refine aft_normal ?_
  refine wa_ (wc_block (wa_ (wa_ (wc_region (w_ (m_ (h:=w_ (m_ (h:=w_ (x_ (h:=w_ (f_ (h:=w_ (l_ (h:=w_ (m_ (h:=w_ (bE (h:=?_)))))))))))))))))))
  refine wo_nil (e_ (h:=aft_normal (?_)))
  refine c_ (h1:=?_) (h2:=?_)
  rotate_right 1
  focus
   intro c2
   first
   | exact dn c2
   | (
    have d2 := c2;try simp at d2
    refine wc_skip (?_)
    )
  rotate_right 1
  focus
   intro c2
   first
   | exact dn c2
   | (
    have d2 := c2;try simp at d2
    refine wa_ (wc_region (w_ (a_ (h:=wo_nil (e_ (h:=aft_normal (wc_ret (?_))))))))
    )
  all_goals first
  | refine aft_ret ?_
  | (
   refine aft_normal ?_
   refine wa_ (wc_region (w_ (m_ (h:=w_ (b_ (h:=w_ (a_ (h:=wo_nil (e_ (h:=aft_normal (wa_ (wa_ (wc_region (w_ (m_ (h:=w_ (m_ (h:=?_))))))))))))))))))
   refine w_ (x_ (h:=w_ (f_ (h:=w_ (l_ (h:=w_ (m_ (h:=w_ (bE (h:=wo_nil (e_ (h:=aft_normal (?_)))))))))))))
   refine c_ (h1:=?_) (h2:=?_)
   rotate_right 1
   focus
    intro c3
    first
    | exact dn c3
    | (
     have d3 := c3;try simp at d3
     refine wc_skip (?_)
     )
   rotate_right 1
   focus
    intro c3
    first
    | exact dn c3
    | (
     have d3 := c3;try simp at d3
     refine wa_ (wc_region (w_ (a_ (h:=wo_nil (e_ (h:=aft_normal (wc_ret (?_))))))))
     )
   all_goals first
   | refine aft_ret ?_
   | (
    refine aft_normal ?_
    refine wa_ (wc_region (w_ (m_ (h:=w_ (b_ (h:=w_ (a_ (h:=wo_nil (e_ (h:=aft_normal (wa_ (wc_region (w_ (m_ (h:=w_ (m_ (h:=w_ (x_ (h:=?_)))))))))))))))))))
    refine w_ (f_ (h:=w_ (l_ (h:=w_ (m_ (h:=w_ (ca (hc:=(by (try simp only [hw0,hw1,hw2]);exact held_Ets (k + (cn_Rls (l.take i) : Nat) + 1 + 1) y.set (by omega) (by omega))) (h:=w_ (a_ (h:=wo_nil (e_ (h:=aft_normal (wa_ (wc_region (w_ (m_ (h:=w_ (b_ (h:=wo_nil (e_ (h:=?_)))))))))))))))))))))
    refine aft_normal (?_)
    refine c_ (h1:=?_) (h2:=?_)
    rotate_right 1
    focus
     intro c4
     first
     | exact dn c4
     | (
      have d4 := c4;try simp at d4
      refine wc_skip (?_)
      )
    rotate_right 1
    focus
     intro c4
     first
     | exact dn c4
     | (
      have d4 := c4;try simp at d4
      refine wa_ (wc_region (w_ (a_ (h:=wo_nil (e_ (h:=aft_normal (wc_ret (?_))))))))
      )
    )
   )
  all_goals first | refine blk_normal ?_ | refine blk_ret ?_
  all_goals first
  | refine aft_ret ?_
  | (
   refine aft_normal ?_
   refine wc_region (w_ (m_ (h:=w_ (b_ (h:=w_ (a_ (h:=wo_nil (e_ (h:=?_)))))))))
   )
  )
 all_goals first
 | (refine (ih (i + 1) (by omega) ?_ _ ?_).trans ?_;(focus (first | omega | (simp;done) | (simp;omega)));(focus (simp [normE,hw,hw0,hw1,hw2];done));(focus (rfl)))
 | (apply end_leaf (ex:=(Ext.exit 0)) 2 (some [1,4]);(focus (simp [normE];rfl));(focus (simp)))
 | (apply end_leaf (ex:=Ext.ret) 2 (some [1,4]);(focus (simp [normE];rfl));(focus (exfalso;clear ih hs hw;simp only [hw0,hw1] at *;simp at *)))
theorem held_Rls (k : Int) (l : List Rl) (hk : 0 ≤ k) (hb : k + (cn_Rls l : Nat) < 1000000000000000000) : oc.call 243 [.lst false 0 (rls false (mk_Rls k l)),.int .i64 k] = some (.int .i64 (k + (cn_Rls l : Nat)),[]) := by
 refine fun_s rfl cd243 rfl rfl rfl (by simp;rfl) (by simp;rfl) ?_
 refine wa_ (wc_region (w_ (a_ (h:=wo_nil (e_ (h:=aft_normal (wa_ (wa_ (wc_region (w_ (a_ (h:=wo_nil (e_ (h:=aft_normal (wc_block (?_))))))))))))))))
 refine wc_loop (l_held_Rls k l hk hb 0 (by omega) _ (by simp [normE,cn_Rls])) ?_
 first | refine blk_ret ?_ | refine blk_exit ?_
 all_goals first
 | refine aft_ret ?_
 | (
  refine aft_normal ?_
  refine wa_ (wc_region (w_ (m_ (h:=w_ (a_ (h:=wo_nil (e_ (h:=aft_normal (wc_ret (?_))))))))))
  )
 all_goals (refine fin_ (hr:=(res_tmp rfl res_nil)) (h:=?_);(focus (first | (simp_all;done) | (simp_all <;> omega) | (simp_all <;> split <;> simp_all <;> omega))))
def cn_Wk (x : Wk) : Nat := cn_Frs x.inbox + cn_Cts x.counts + cn_Hds x.nodes + 1 + 1 + cn_Rls x.outs + 1
theorem cn_Wk_pos (x : Wk) : 1 ≤ cn_Wk x := by unfold cn_Wk;omega
def cn_Wks (l : List Wk) : Nat := wS cn_Wk l
theorem cn_Wks_len {l : List Wk} : l.length ≤ cn_Wks l := wS_len cn_Wk_pos
def mk_Wk (k : Int) (x : Wk) : Wk := ⟨mk_Frs (k) x.inbox,mk_Cts (k + (cn_Frs x.inbox : Nat)) x.counts,mk_Hds (k + (cn_Frs x.inbox : Nat) + (cn_Cts x.counts : Nat)) x.nodes,k + (cn_Frs x.inbox : Nat) + (cn_Cts x.counts : Nat) + (cn_Hds x.nodes : Nat),k + (cn_Frs x.inbox : Nat) + (cn_Cts x.counts : Nat) + (cn_Hds x.nodes : Nat) + 1,mk_Rls (k + (cn_Frs x.inbox : Nat) + (cn_Cts x.counts : Nat) + (cn_Hds x.nodes : Nat) + 1 + 1) x.outs,decide ((k + (cn_Frs x.inbox : Nat) + (cn_Cts x.counts : Nat) + (cn_Hds x.nodes : Nat) + 1 + 1 + (cn_Rls x.outs : Nat)).tmod 3 = 0)⟩
@[simp] theorem mk_Wk_inbox (k : Int) (x : Wk) : (mk_Wk k x).inbox = mk_Frs (k) x.inbox := rfl
@[simp] theorem mk_Wk_counts (k : Int) (x : Wk) : (mk_Wk k x).counts = mk_Cts (k + (cn_Frs x.inbox : Nat)) x.counts := rfl
@[simp] theorem mk_Wk_nodes (k : Int) (x : Wk) : (mk_Wk k x).nodes = mk_Hds (k + (cn_Frs x.inbox : Nat) + (cn_Cts x.counts : Nat)) x.nodes := rfl
@[simp] theorem mk_Wk_ep (k : Int) (x : Wk) : (mk_Wk k x).ep = k + (cn_Frs x.inbox : Nat) + (cn_Cts x.counts : Nat) + (cn_Hds x.nodes : Nat) := rfl
@[simp] theorem mk_Wk_top (k : Int) (x : Wk) : (mk_Wk k x).top = k + (cn_Frs x.inbox : Nat) + (cn_Cts x.counts : Nat) + (cn_Hds x.nodes : Nat) + 1 := rfl
@[simp] theorem mk_Wk_outs (k : Int) (x : Wk) : (mk_Wk k x).outs = mk_Rls (k + (cn_Frs x.inbox : Nat) + (cn_Cts x.counts : Nat) + (cn_Hds x.nodes : Nat) + 1 + 1) x.outs := rfl
@[simp] theorem mk_Wk_bad (k : Int) (x : Wk) : (mk_Wk k x).bad = decide ((k + (cn_Frs x.inbox : Nat) + (cn_Cts x.counts : Nat) + (cn_Hds x.nodes : Nat) + 1 + 1 + (cn_Rls x.outs : Nat)).tmod 3 = 0) := rfl
def mk_Wks (k : Int) : List Wk → List Wk
  | [] => []
  | x :: r => mk_Wk k x :: mk_Wks (k + (cn_Wk x : Nat)) r
@[simp] theorem mk_Wks_len {k : Int} {l : List Wk} : (mk_Wks k l).length = l.length := by
  induction l generalizing k with
  | nil => rfl
  | cons x r ih => simp [mk_Wks,ih]
@[simp] theorem mk_Wks_take {k : Int} {l : List Wk} : (mk_Wks k l).take l.length = mk_Wks k l := List.take_of_length_le (by simp)
theorem mk_Wks_at {k : Int} {l : List Wk} {i : Nat} {x : Wk} (h : l[i]? = some x) : (mk_Wks k l)[i]? = some (mk_Wk (k + (cn_Wks (l.take i) : Nat)) x) := by
  induction l generalizing k i with
  | nil => simp at h
  | cons y r ih =>
    cases i with
    | zero => simp at h;subst h;simp [mk_Wks,cn_Wks]
    | succ i => simp at h;simp only [mk_Wks,List.getElem?_cons_succ,ih h,List.take_succ_cons,cn_Wks,wS_cons];congr 2;push_cast;omega
@[simp] theorem alike_wks (t u : Bool) (a b : List Wk) : V.alikeL (wks t a) (wks u b) = decide (a.length = b.length) := alikeL_map (fun _ _ => rfl)
theorem l_mk_Wks (k : Int) (l : List Wk) (hk : 0 ≤ k) (hb : k + (cn_Wks l : Nat) < 1000000000000000000) : ∀ x : Nat × (List Wk),(x.1 ≤ l.length ∧ x.2.length = l.length ∧ x.2.take x.1 = (mk_Wks k l).take x.1 ∧ x.2.drop x.1 = l.drop x.1) → ∀ s,normE 2 (some [0,1,5]) s = ⟨[(0,.ref 0 0 l.length),(1,.int .i64 (k + (cn_Wks (l.take x.1) : Nat))),(5,.int .i64 x.1)],[(0,⟨false,true,7,wks true x.2,0⟩)],2⟩ →
 oc.loop 214 2 s = some (.exit 0,⟨[(1,.int .i64 (k + (cn_Wks l : Nat)))],[(0,⟨false,true,7,wks true (mk_Wks k l),0⟩)],2⟩) := by
 refine loop_ind (σ:=Nat × (List Wk)) (fun x => l.length - x.1) _ (fun x => ⟨[(0,.ref 0 0 l.length),(1,.int .i64 (k + (cn_Wks (l.take x.1) : Nat))),(5,.int .i64 x.1)],[(0,⟨false,true,7,wks true x.2,0⟩)],2⟩) _ ?_
 rintro ⟨i,r⟩ hi ih s hs
 simp only at hi
 refine loop_s cd214 rfl rfl hs ?_
 obtain ⟨hi1,hi2,hi3,hi4⟩ := hi
 have hlen := cn_Wks_len (l:=l)
 refine wa_ (wa_ (wc_region (w_ (m_ (h:=w_ (m_ (h:=w_ (le (h:=w_ (b_ (h:=wo_nil (e_ (h:=aft_normal (?_))))))))))))))
 refine c_ (h1:=?_) (h2:=?_)
 rotate_right 1
 focus
  intro c1
  simp at c1;obtain rfl : i = l.length := (by omega);obtain rfl : r = mk_Wks k l := (by rw [List.take_of_length_le (by omega),List.take_of_length_le (by simp)] at hi3;exact hi3)
  refine wc_exit (?_)
 rotate_right 1
 focus
  intro c1
  simp at c1;have hw := wrap_succ (i:=i) (by omega);obtain ⟨y,hx,_,_⟩ := wks_cut (t:=false) (l:=l) (i:=i) c1;have hy : r[i]? = some y := (by have := congrArg (fun q => q[0]?) hi4;simpa [hx] using this);have g2 : (wks true r)[i]? = some (Wk.v true (y)) := (by simp [wks,hy]);have hcut := wS_cut (f:=cn_Wk) hx;have hle := wS_take (f:=cn_Wk) (l:=l) (i:=i + 1);have hcy : cn_Wk y = cn_Frs y.inbox + cn_Cts y.counts + cn_Hds y.nodes + 1 + 1 + cn_Rls y.outs + 1 := rfl;change cn_Wks (l.take (i + 1)) = cn_Wks (l.take i) + cn_Wk y at hcut;change cn_Wks (l.take (i + 1)) ≤ cn_Wks l at hle;have hw3 : IntKind.i64.wrap (k + (cn_Wks (l.take i) : Nat) + (cn_Frs y.inbox : Nat) + (cn_Cts y.counts : Nat) + (cn_Hds y.nodes : Nat) + 1) = k + (cn_Wks (l.take i) : Nat) + (cn_Frs y.inbox : Nat) + (cn_Cts y.counts : Nat) + (cn_Hds y.nodes : Nat) + 1 := wrap_id (by omega) (by omega);have hw4 : IntKind.i64.wrap (k + (cn_Wks (l.take i) : Nat) + (cn_Frs y.inbox : Nat) + (cn_Cts y.counts : Nat) + (cn_Hds y.nodes : Nat) + 1 + 1) = k + (cn_Wks (l.take i) : Nat) + (cn_Frs y.inbox : Nat) + (cn_Cts y.counts : Nat) + (cn_Hds y.nodes : Nat) + 1 + 1 := wrap_id (by omega) (by omega);have hw6 : IntKind.i64.wrap (k + (cn_Wks (l.take i) : Nat) + (cn_Frs y.inbox : Nat) + (cn_Cts y.counts : Nat) + (cn_Hds y.nodes : Nat) + 1 + 1 + (cn_Rls y.outs : Nat) + 1) = k + ((cn_Wks (l.take (i + 1)) : Nat) : Int) := (by rw [hcut];exact (wrap_id (by omega) (by omega)).trans (by omega))
  refine wc_skip (?_)
 all_goals first
 | refine aft_exit ?_
 | (
  refine aft_normal ?_
  refine wa_ (wc_block (wa_ (wc_region (w_ (m_ (h:=w_ (m_ (h:=w_ (x_ (h:=w_ (f_ (h:=w_ (l_ (h:=w_ (m_ (h:=?_))))))))))))))))
  first | refine ip (hc:=(by (try simp only [hw3,hw4,hw6]);exact mkf_Frs (k + (cn_Wks (l.take i) : Nat)) y.inbox (by omega) (by omega))) (h:=?_) | refine iq (hc:=(by (try simp only [hw3,hw4,hw6]);exact mkf_Frs (k + (cn_Wks (l.take i) : Nat)) y.inbox (by omega) (by omega))) (h:=?_)
  refine w_ (a_ (h:=wo_nil (e_ (h:=aft_normal (wa_ (wc_region (w_ (m_ (h:=w_ (m_ (h:=w_ (x_ (h:=w_ (f_ (h:=w_ (l_ (h:=w_ (m_ (h:=?_)))))))))))))))))))
  first | refine ip (hc:=(by (try simp only [hw3,hw4,hw6]);exact mkf_Cts (k + (cn_Wks (l.take i) : Nat) + (cn_Frs y.inbox : Nat)) y.counts (by omega) (by omega))) (h:=?_) | refine iq (hc:=(by (try simp only [hw3,hw4,hw6]);exact mkf_Cts (k + (cn_Wks (l.take i) : Nat) + (cn_Frs y.inbox : Nat)) y.counts (by omega) (by omega))) (h:=?_)
  refine w_ (a_ (h:=wo_nil (e_ (h:=aft_normal (wa_ (wc_region (w_ (m_ (h:=w_ (m_ (h:=w_ (x_ (h:=w_ (f_ (h:=w_ (l_ (h:=w_ (m_ (h:=?_)))))))))))))))))))
  first | refine ip (hc:=(by (try simp only [hw3,hw4,hw6]);exact mkf_Hds (k + (cn_Wks (l.take i) : Nat) + (cn_Frs y.inbox : Nat) + (cn_Cts y.counts : Nat)) y.nodes (by omega) (by omega))) (h:=?_) | refine iq (hc:=(by (try simp only [hw3,hw4,hw6]);exact mkf_Hds (k + (cn_Wks (l.take i) : Nat) + (cn_Frs y.inbox : Nat) + (cn_Cts y.counts : Nat)) y.nodes (by omega) (by omega))) (h:=?_)
  refine w_ (a_ (h:=wo_nil (e_ (h:=aft_normal (wa_ (wc_region (w_ (m_ (h:=w_ (m_ (h:=w_ (m_ (h:=w_ (x_ (h:=w_ (f_ (h:=w0 (s_ (h:=wo_nil (e_ (h:=?_)))))))))))))))))))))
  refine aft_normal (wa_ (wc_region (w_ (m_ (h:=w_ (b_ (h:=w_ (a_ (h:=wo_nil (e_ (h:=aft_normal (wa_ (wc_region (w_ (m_ (h:=w_ (m_ (h:=?_))))))))))))))))))
  refine w_ (m_ (h:=w_ (x_ (h:=w_ (f_ (h:=w0 (s_ (h:=wo_nil (e_ (h:=aft_normal (wa_ (wc_region (w_ (m_ (h:=w_ (b_ (h:=w_ (a_ (h:=wo_nil (e_ (h:=?_)))))))))))))))))))))
  refine aft_normal (wa_ (wc_region (w_ (m_ (h:=w_ (m_ (h:=w_ (x_ (h:=w_ (f_ (h:=w_ (l_ (h:=w_ (m_ (h:=?_)))))))))))))))
  first | refine ip (hc:=(by (try simp only [hw3,hw4,hw6]);exact mkf_Rls (k + (cn_Wks (l.take i) : Nat) + (cn_Frs y.inbox : Nat) + (cn_Cts y.counts : Nat) + (cn_Hds y.nodes : Nat) + 1 + 1) y.outs (by omega) (by omega))) (h:=?_) | refine iq (hc:=(by (try simp only [hw3,hw4,hw6]);exact mkf_Rls (k + (cn_Wks (l.take i) : Nat) + (cn_Frs y.inbox : Nat) + (cn_Cts y.counts : Nat) + (cn_Hds y.nodes : Nat) + 1 + 1) y.outs (by omega) (by omega))) (h:=?_)
  refine w_ (a_ (h:=wo_nil (e_ (h:=aft_normal (wa_ (wc_region (w_ (m_ (h:=w_ (m_ (h:=w_ (m_ (h:=w_ (b_ (h:=w_ (bE (h:=w_ (x_ (h:=w_ (f_ (h:=?_)))))))))))))))))))))
  refine w0 (s_ (h:=wo_nil (e_ (h:=aft_normal (wc_region (w_ (m_ (h:=w_ (b_ (h:=w_ (a_ (h:=wo_nil (e_ (h:=blk_normal (aft_normal (wc_region (w_ (m_ (h:=?_)))))))))))))))))))
  refine w_ (b_ (h:=w_ (a_ (h:=wo_nil (e_ (h:=?_))))))
  )
 all_goals first
 | (refine (ih ((i + 1,r.set i (mk_Wk (k + (cn_Wks (l.take i) : Nat)) y))) (⟨by simp;omega,by simpa using hi2,set_take hi3 (by simpa using hi2) (mk_Wks_at hx),set_drop hi4⟩) ?_ _ ?_).trans ?_;(focus (first | omega | (simp;done) | (simp;omega)));(focus (simp [normE,hw,hw3,hw4,hw6,mk_Wk];done));(focus (rfl)))
 | (apply end_leaf (ex:=(Ext.exit 0)) 2 (some [1]);(focus (simp [normE];rfl));(focus (simp)))
theorem mkf_Wks (k : Int) (l : List Wk) (hk : 0 ≤ k) (hb : k + (cn_Wks l : Nat) < 1000000000000000000) : oc.call 214 [.iol 7 (wks true l),.int .i64 k] = some (.int .i64 (k + (cn_Wks l : Nat)),[.lst true 7 (wks true (mk_Wks k l))]) := by
 refine fun_s rfl cd214 rfl rfl rfl (by simp;rfl) (by simp;rfl) ?_
 refine wa_ (wc_region (w_ (a_ (h:=wo_nil (e_ (h:=aft_normal (wa_ (wa_ (wc_region (w_ (a_ (h:=wo_nil (e_ (h:=aft_normal (wc_block (?_))))))))))))))))
 refine wc_loop (l_mk_Wks k l hk hb (0,l) (by simp) _ (by simp [normE,cn_Wks])) ?_
 refine blk_exit (aft_normal (wa_ (wc_region (w_ (m_ (h:=w_ (a_ (h:=wo_nil (e_ (h:=aft_normal (wc_ret (?_))))))))))))
 all_goals (refine fin_ (hr:=(res_tmp rfl res_nil)) (h:=?_);(focus (first | (simp_all;done) | (simp_all <;> omega) | (simp_all <;> split <;> simp_all <;> omega))))
theorem l_held_Wks (k : Int) (l : List Wk) (hk : 0 ≤ k) (hb : k + (cn_Wks l : Nat) < 1000000000000000000) : ∀ i : Nat,(i ≤ l.length) → ∀ s,normE 2 (some [0,1,5]) s = ⟨[(0,.lst false 0 (wks false (mk_Wks k l))),(1,.int .i64 (k + (cn_Wks (l.take i) : Nat))),(5,.int .i64 i)],[],2⟩ →
 oc.loop 217 2 s = some (.exit 0,⟨[(1,.int .i64 (k + (cn_Wks l : Nat)))],[],2⟩) := by
 refine loop_ind (σ:=Nat) (fun i => l.length - i) _ (fun i => ⟨[(0,.lst false 0 (wks false (mk_Wks k l))),(1,.int .i64 (k + (cn_Wks (l.take i) : Nat))),(5,.int .i64 i)],[],2⟩) _ ?_
 intro i hi ih s hs
 refine loop_s cd217 rfl rfl hs ?_
 have hlen := cn_Wks_len (l:=l)
 refine wa_ (wa_ (wc_region (w_ (m_ (h:=w_ (m_ (h:=w_ (le (h:=w_ (b_ (h:=wo_nil (e_ (h:=aft_normal (?_))))))))))))))
 refine c_ (h1:=?_) (h2:=?_)
 rotate_right 1
 focus
  intro c1
  first
  | exact dn c1
  | (
   have d1 := c1;try simp at d1
   obtain rfl : i = l.length := (by omega)
   refine wc_exit (?_)
   )
 rotate_right 1
 focus
  intro c1
  first
  | exact dn c1
  | (
   have d1 := c1;try simp at d1
   have hc1 : i < l.length := (by simpa using d1);have hw := wrap_succ (i:=i) (by omega);obtain ⟨y,hx,_,_⟩ := wks_cut (t:=false) (l:=l) (i:=i) hc1;have g2 : (wks false (mk_Wks k l))[i]? = some (Wk.v false (mk_Wk (k + (cn_Wks (l.take i) : Nat)) y)) := (by simp [wks,mk_Wks_at hx]);have hcut := wS_cut (f:=cn_Wk) hx;have hle := wS_take (f:=cn_Wk) (l:=l) (i:=i + 1);have hcy : cn_Wk y = cn_Frs y.inbox + cn_Cts y.counts + cn_Hds y.nodes + 1 + 1 + cn_Rls y.outs + 1 := rfl;change cn_Wks (l.take (i + 1)) = cn_Wks (l.take i) + cn_Wk y at hcut;change cn_Wks (l.take (i + 1)) ≤ cn_Wks l at hle;have hw3 : IntKind.i64.wrap (k + (cn_Wks (l.take i) : Nat) + (cn_Frs y.inbox : Nat) + (cn_Cts y.counts : Nat) + (cn_Hds y.nodes : Nat) + 1) = k + (cn_Wks (l.take i) : Nat) + (cn_Frs y.inbox : Nat) + (cn_Cts y.counts : Nat) + (cn_Hds y.nodes : Nat) + 1 := wrap_id (by omega) (by omega);have hw4 : IntKind.i64.wrap (k + (cn_Wks (l.take i) : Nat) + (cn_Frs y.inbox : Nat) + (cn_Cts y.counts : Nat) + (cn_Hds y.nodes : Nat) + 1 + 1) = k + (cn_Wks (l.take i) : Nat) + (cn_Frs y.inbox : Nat) + (cn_Cts y.counts : Nat) + (cn_Hds y.nodes : Nat) + 1 + 1 := wrap_id (by omega) (by omega);have hw6 : IntKind.i64.wrap (k + (cn_Wks (l.take i) : Nat) + (cn_Frs y.inbox : Nat) + (cn_Cts y.counts : Nat) + (cn_Hds y.nodes : Nat) + 1 + 1 + (cn_Rls y.outs : Nat) + 1) = k + ((cn_Wks (l.take (i + 1)) : Nat) : Int) := (by rw [hcut];exact (wrap_id (by omega) (by omega)).trans (by omega))
   refine wc_skip (?_)
   )
 all_goals first
 | refine aft_exit ?_
 | (
  refine aft_normal ?_
  refine wa_ (wc_block (wa_ (wc_region (w_ (m_ (h:=w_ (m_ (h:=w_ (x_ (h:=w_ (f_ (h:=w_ (l_ (h:=w_ (m_ (h:=w_ (ca (hc:=(by (try simp only [hw3,hw4,hw6]);exact held_Frs (k + (cn_Wks (l.take i) : Nat)) y.inbox (by omega) (by omega))) (h:=w_ (a_ (h:=?_))))))))))))))))))))
  refine wo_nil (e_ (h:=aft_normal (wa_ (wa_ (wc_region (w_ (m_ (h:=w_ (b_ (h:=wo_nil (e_ (h:=aft_normal (?_)))))))))))))
  refine c_ (h1:=?_) (h2:=?_)
  rotate_right 1
  focus
   intro c2
   first
   | exact dn c2
   | (
    have d2 := c2;try simp at d2
    refine wc_skip (?_)
    )
  rotate_right 1
  focus
   intro c2
   first
   | exact dn c2
   | (
    have d2 := c2;try simp at d2
    refine wa_ (wc_region (w_ (a_ (h:=wo_nil (e_ (h:=aft_normal (wc_ret (?_))))))))
    )
  all_goals first
  | refine aft_ret ?_
  | (
   refine aft_normal ?_
   refine wa_ (wc_region (w_ (m_ (h:=w_ (m_ (h:=w_ (x_ (h:=w_ (f_ (h:=w_ (l_ (h:=w_ (m_ (h:=w_ (ca (hc:=(by (try simp only [hw3,hw4,hw6]);exact held_Cts (k + (cn_Wks (l.take i) : Nat) + (cn_Frs y.inbox : Nat)) y.counts (by omega) (by omega))) (h:=w_ (a_ (h:=wo_nil (e_ (h:=aft_normal (?_)))))))))))))))))))))
   refine wa_ (wa_ (wc_region (w_ (m_ (h:=w_ (b_ (h:=wo_nil (e_ (h:=aft_normal (?_))))))))))
   refine c_ (h1:=?_) (h2:=?_)
   rotate_right 1
   focus
    intro c3
    first
    | exact dn c3
    | (
     have d3 := c3;try simp at d3
     refine wc_skip (?_)
     )
   rotate_right 1
   focus
    intro c3
    first
    | exact dn c3
    | (
     have d3 := c3;try simp at d3
     refine wa_ (wc_region (w_ (a_ (h:=wo_nil (e_ (h:=aft_normal (wc_ret (?_))))))))
     )
   all_goals first
   | refine aft_ret ?_
   | (
    refine aft_normal ?_
    refine wa_ (wc_region (w_ (m_ (h:=w_ (m_ (h:=w_ (x_ (h:=w_ (f_ (h:=w_ (l_ (h:=w_ (m_ (h:=w_ (ca (hc:=(by (try simp only [hw3,hw4,hw6]);exact held_Hds (k + (cn_Wks (l.take i) : Nat) + (cn_Frs y.inbox : Nat) + (cn_Cts y.counts : Nat)) y.nodes (by omega) (by omega))) (h:=w_ (a_ (h:=wo_nil (e_ (h:=aft_normal (?_)))))))))))))))))))))
    refine wa_ (wa_ (wc_region (w_ (m_ (h:=w_ (b_ (h:=wo_nil (e_ (h:=aft_normal (?_))))))))))
    refine c_ (h1:=?_) (h2:=?_)
    rotate_right 1
    focus
     intro c4
     first
     | exact dn c4
     | (
      have d4 := c4;try simp at d4
      refine wc_skip (?_)
      )
    rotate_right 1
    focus
     intro c4
     first
     | exact dn c4
     | (
      have d4 := c4;try simp at d4
      refine wa_ (wc_region (w_ (a_ (h:=wo_nil (e_ (h:=aft_normal (wc_ret (?_))))))))
      )
    all_goals first
    | refine aft_ret ?_
    | (
     refine aft_normal ?_
     refine wa_ (wa_ (wc_region (w_ (m_ (h:=w_ (m_ (h:=w_ (x_ (h:=w_ (f_ (h:=w_ (l_ (h:=w_ (m_ (h:=w_ (bE (h:=wo_nil (e_ (h:=aft_normal (?_))))))))))))))))))))
     refine c_ (h1:=?_) (h2:=?_)
     rotate_right 1
     focus
      intro c5
      first
      | exact dn c5
      | (
       have d5 := c5;try simp at d5
       refine wc_skip (?_)
       )
     rotate_right 1
     focus
      intro c5
      first
      | exact dn c5
      | (
       have d5 := c5;try simp at d5
       refine wa_ (wc_region (w_ (a_ (h:=wo_nil (e_ (h:=aft_normal (wc_ret (?_))))))))
       )
     all_goals first
     | refine aft_ret ?_
     | (
      refine aft_normal ?_
      refine wa_ (wc_region (w_ (m_ (h:=w_ (b_ (h:=w_ (a_ (h:=wo_nil (e_ (h:=aft_normal (wa_ (wa_ (wc_region (w_ (m_ (h:=w_ (m_ (h:=?_))))))))))))))))))
      refine w_ (x_ (h:=w_ (f_ (h:=w_ (l_ (h:=w_ (m_ (h:=w_ (bE (h:=wo_nil (e_ (h:=aft_normal (?_)))))))))))))
      refine c_ (h1:=?_) (h2:=?_)
      rotate_right 1
      focus
       intro c6
       first
       | exact dn c6
       | (
        have d6 := c6;try simp at d6
        refine wc_skip (?_)
        )
      rotate_right 1
      focus
       intro c6
       first
       | exact dn c6
       | (
        have d6 := c6;try simp at d6
        refine wa_ (wc_region (w_ (a_ (h:=wo_nil (e_ (h:=aft_normal (wc_ret (?_))))))))
        )
      all_goals first
      | refine aft_ret ?_
      | (
       refine aft_normal ?_
       refine wa_ (wc_region (w_ (m_ (h:=w_ (b_ (h:=w_ (a_ (h:=wo_nil (e_ (h:=aft_normal (wa_ (wc_region (w_ (m_ (h:=w_ (m_ (h:=w_ (x_ (h:=?_)))))))))))))))))))
       refine w_ (f_ (h:=w_ (l_ (h:=w_ (m_ (h:=w_ (ca (hc:=(by (try simp only [hw3,hw4,hw6]);exact held_Rls (k + (cn_Wks (l.take i) : Nat) + (cn_Frs y.inbox : Nat) + (cn_Cts y.counts : Nat) + (cn_Hds y.nodes : Nat) + 1 + 1) y.outs (by omega) (by omega))) (h:=w_ (a_ (h:=wo_nil (e_ (h:=aft_normal (wa_ (wa_ (wc_region (w_ (m_ (h:=w_ (b_ (h:=?_))))))))))))))))))))
       refine wo_nil (e_ (h:=aft_normal (?_)))
       refine c_ (h1:=?_) (h2:=?_)
       rotate_right 1
       focus
        intro c7
        first
        | exact dn c7
        | (
         have d7 := c7;try simp at d7
         refine wc_skip (?_)
         )
       rotate_right 1
       focus
        intro c7
        first
        | exact dn c7
        | (
         have d7 := c7;try simp at d7
         refine wa_ (wc_region (w_ (a_ (h:=wo_nil (e_ (h:=aft_normal (wc_ret (?_))))))))
         )
       all_goals first
       | refine aft_ret ?_
       | (
        refine aft_normal ?_
        refine wa_ (wa_ (wc_region (w_ (m_ (h:=w_ (m_ (h:=w_ (x_ (h:=w_ (f_ (h:=w_ (l_ (h:=w_ (m_ (h:=w_ (b_ (h:=w_ (bE (h:=w_ (bE (h:=?_)))))))))))))))))))))
        refine wo_nil (e_ (h:=aft_normal (?_)))
        refine c_ (h1:=?_) (h2:=?_)
        rotate_right 1
        focus
         intro c8
         first
         | exact dn c8
         | (
          have d8 := c8;try simp at d8
          refine wc_skip (?_)
          )
        rotate_right 1
        focus
         intro c8
         first
         | exact dn c8
         | (
          have d8 := c8;try simp at d8
          refine wa_ (wc_region (w_ (a_ (h:=wo_nil (e_ (h:=aft_normal (wc_ret (?_))))))))
          )
        all_goals first
        | refine aft_ret ?_
        | (
         refine aft_normal ?_
         refine wc_region (w_ (m_ (h:=w_ (b_ (h:=w_ (a_ (h:=wo_nil (e_ (h:=?_)))))))))
         )
        )
       )
      )
     )
    )
   )
  all_goals first | refine blk_normal ?_ | refine blk_ret ?_
  all_goals first
  | refine aft_ret ?_
  | (
   refine aft_normal ?_
   refine wc_region (w_ (m_ (h:=w_ (b_ (h:=w_ (a_ (h:=wo_nil (e_ (h:=?_)))))))))
   )
  )
 all_goals first
 | (refine (ih (i + 1) (by omega) ?_ _ ?_).trans ?_;(focus (first | omega | (simp;done) | (simp;omega)));(focus (simp [normE,hw,hw3,hw4,hw6];done));(focus (rfl)))
 | (apply end_leaf (ex:=(Ext.exit 0)) 2 (some [1,4]);(focus (simp [normE];rfl));(focus (simp)))
 | (apply end_leaf (ex:=Ext.ret) 2 (some [1,4]);(focus (simp [normE];rfl));(focus (exfalso;clear ih hs hw;simp only [hw3,hw4] at *;simp at *)))
theorem held_Wks (k : Int) (l : List Wk) (hk : 0 ≤ k) (hb : k + (cn_Wks l : Nat) < 1000000000000000000) : oc.call 217 [.lst false 0 (wks false (mk_Wks k l)),.int .i64 k] = some (.int .i64 (k + (cn_Wks l : Nat)),[]) := by
 refine fun_s rfl cd217 rfl rfl rfl (by simp;rfl) (by simp;rfl) ?_
 refine wa_ (wc_region (w_ (a_ (h:=wo_nil (e_ (h:=aft_normal (wa_ (wa_ (wc_region (w_ (a_ (h:=wo_nil (e_ (h:=aft_normal (wc_block (?_))))))))))))))))
 refine wc_loop (l_held_Wks k l hk hb 0 (by omega) _ (by simp [normE,cn_Wks])) ?_
 first | refine blk_ret ?_ | refine blk_exit ?_
 all_goals first
 | refine aft_ret ?_
 | (
  refine aft_normal ?_
  refine wa_ (wc_region (w_ (m_ (h:=w_ (a_ (h:=wo_nil (e_ (h:=aft_normal (wc_ret (?_))))))))))
  )
 all_goals (refine fin_ (hr:=(res_tmp rfl res_nil)) (h:=?_);(focus (first | (simp_all;done) | (simp_all <;> omega) | (simp_all <;> split <;> simp_all <;> omega))))
def etss (t : Bool) (l : List (List Et)) : List V := l.map fun x => .lst t (lz t 2) (ets t x)
@[simp] theorem etss_len (t : Bool) (l : List (List Et)) : (etss t l).length = l.length := by simp [etss]
@[simp] theorem etss_nil (t : Bool) : etss t [] = [] := rfl
@[simp] theorem etss_cons (t : Bool) (x : List Et) (l : List (List Et)) : etss t (x :: l) = .lst t (lz t 2) (ets t x) :: etss t l := rfl
@[simp] theorem etss_join (t : Bool) (l m : List (List Et)) : etss t l ++ etss t m = etss t (l ++ m) := by simp [etss]
@[simp] theorem etss_snocT (l : List (List Et)) (x : List Et) : etss true l ++ [.lst true 2 (ets true x)] = etss true (l ++ [x]) := by simp [etss]
@[simp] theorem etss_snocF (l : List (List Et)) (x : List Et) : etss false l ++ [.lst false 0 (ets false x)] = etss false (l ++ [x]) := by simp [etss]
@[simp] theorem etss_setT (l : List (List Et)) (i : Nat) (x : List Et) : (etss true l).set i (.lst true 2 (ets true x)) = etss true (l.set i x) := by simp [etss,List.map_set]
@[simp] theorem etss_setF (l : List (List Et)) (i : Nat) (x : List Et) : (etss false l).set i (.lst false 0 (ets false x)) = etss false (l.set i x) := by simp [etss,List.map_set]
@[simp] theorem etss_take (t : Bool) (n : Nat) (l : List (List Et)) : (etss t l).take n = etss t (l.take n) := by simp [etss,List.map_take]
@[simp] theorem etss_drop (t : Bool) (n : Nat) (l : List (List Et)) : (etss t l).drop n = etss t (l.drop n) := by simp [etss,List.map_drop]
@[simp] theorem etss_shareL (t : Bool) (l : List (List Et)) : V.shareL (etss t l) = etss false l := by
  induction l with
  | nil => rfl
  | cons x l ih => simp [V.shareL,ih,lst_share]
@[simp] theorem etss_tidyT (l : List (List Et)) : V.tidyL (etss true l) = true := by
  induction l with
  | nil => rfl
  | cons x l ih => simp [V.tidyL,V.tidy,ih]
theorem alikeL_lss {α β : Type} {f : α → V} {g : β → V} (hf : ∀ x y,(f x).alike (g y) = true) : ∀ {a : List α} {b : List β},V.alikeL (a.map f) (b.map g) = decide (a.length = b.length)
  | [],[] => rfl
  | [],_ :: _ => by simp [V.alikeL]
  | _ :: _,[] => by simp [V.alikeL]
  | x :: a,y :: b => by simp only [List.map_cons,V.alikeL,hf,Bool.true_and,alikeL_lss hf (a:=a) (b:=b),List.length_cons,Nat.add_right_cancel_iff]
@[simp] theorem alike_etss (t u : Bool) (a b : List (List Et)) : V.alikeL (etss t a) (etss u b) = decide (a.length = b.length) := alikeL_lss (fun _ _ => rfl)
def frss (t : Bool) (l : List (List Fr)) : List V := l.map fun x => .lst t (lz t 6) (frs t x)
@[simp] theorem frss_len (t : Bool) (l : List (List Fr)) : (frss t l).length = l.length := by simp [frss]
@[simp] theorem frss_nil (t : Bool) : frss t [] = [] := rfl
@[simp] theorem frss_cons (t : Bool) (x : List Fr) (l : List (List Fr)) : frss t (x :: l) = .lst t (lz t 6) (frs t x) :: frss t l := rfl
@[simp] theorem frss_join (t : Bool) (l m : List (List Fr)) : frss t l ++ frss t m = frss t (l ++ m) := by simp [frss]
@[simp] theorem frss_snocT (l : List (List Fr)) (x : List Fr) : frss true l ++ [.lst true 6 (frs true x)] = frss true (l ++ [x]) := by simp [frss]
@[simp] theorem frss_snocF (l : List (List Fr)) (x : List Fr) : frss false l ++ [.lst false 0 (frs false x)] = frss false (l ++ [x]) := by simp [frss]
@[simp] theorem frss_setT (l : List (List Fr)) (i : Nat) (x : List Fr) : (frss true l).set i (.lst true 6 (frs true x)) = frss true (l.set i x) := by simp [frss,List.map_set]
@[simp] theorem frss_setF (l : List (List Fr)) (i : Nat) (x : List Fr) : (frss false l).set i (.lst false 0 (frs false x)) = frss false (l.set i x) := by simp [frss,List.map_set]
theorem frss_zero (m : Nat) : List.replicate m (V.lst true 6 []) = frss true (List.replicate m []) := by simp [frss]
theorem frss_get {t : Bool} {l : List (List Fr)} {i : Nat} {x : List Fr} (h : l[i]? = some x) : (frss t l)[i]? = some (.lst t (lz t 6) (frs t x)) := by simp [frss,h]
theorem frss_at {t : Bool} {l : List (List Fr)} {i : Nat} (h : i < l.length) : (frss t l)[(i : Int).toNat]? = some (.lst t (lz t 6) (frs t l[i])) := frss_get (by simp [h])
theorem frss_cut {t : Bool} {l : List (List Fr)} {i : Nat} (h : i < l.length) : ∃ x,l[i]? = some x ∧ l.drop i = x :: l.drop (i + 1) ∧ (frss t l)[(i : Int).toNat]? = some (.lst t (lz t 6) (frs t x)) :=
  ⟨l[i],by simp [h],List.drop_eq_getElem_cons h,frss_at h⟩
@[simp] theorem frss_take (t : Bool) (n : Nat) (l : List (List Fr)) : (frss t l).take n = frss t (l.take n) := by simp [frss,List.map_take]
@[simp] theorem frss_drop (t : Bool) (n : Nat) (l : List (List Fr)) : (frss t l).drop n = frss t (l.drop n) := by simp [frss,List.map_drop]
@[simp] theorem frss_shareL (t : Bool) (l : List (List Fr)) : V.shareL (frss t l) = frss false l := by
  induction l with
  | nil => rfl
  | cons x l ih => simp [V.shareL,ih,lst_share]
@[simp] theorem frss_tidyT (l : List (List Fr)) : V.tidyL (frss true l) = true := by
  induction l with
  | nil => rfl
  | cons x l ih => simp [V.tidyL,V.tidy,ih]
@[simp] theorem alike_frss (t u : Bool) (a b : List (List Fr)) : V.alikeL (frss t a) (frss u b) = decide (a.length = b.length) := alikeL_lss (fun _ _ => rfl)
end Go.Proofs.Ytgkbmiaimjpbfaa.Ev
namespace Go.Proofs.Ytgkbmiaimjpbfaa.Ev
open Go
set_option maxRecDepth 100000
set_option linter.unusedSimpArgs false
set_option linter.unusedVariables false
set_option maxHeartbeats 2000000
structure Cl where
  plan : List Nd
  workers : List Wk
  links : List (List Fr)
  deriving DecidableEq
theorem Cl.eq_iff {d g : Cl} : d = g ↔ d.plan = g.plan ∧ d.workers = g.workers ∧ d.links = g.links := by
  cases d;cases g;simp
def Cl.v (t : Bool) (x : Cl) : V := .agg [.lst t (lz t 7) (nds t (lz t 1) x.plan),.lst t (lz t 7) (wks t x.workers),.lst t (lz t 1) (frss t x.links)]
theorem nds_tidyC (l : List Nd) : V.tidyL (nds true 1 l) = true := by
  induction l with
  | nil => rfl
  | cons x l ih => simp [V.tidyL,ih,Nd.v,V.tidy,ints_tidy]
@[simp] theorem Cl.cells_v (t : Bool) (x : Cl) : (x.v t).cells = 3 := rfl
@[simp] theorem Cl.mention (t : Bool) (x : Cl) : V.mention (x.v t) = [] := by simp [Cl.v,V.mention,V.mentionL,lst_mention]
@[simp] theorem Cl.share (t : Bool) (x : Cl) : (x.v t).share = x.v false := by simp [Cl.v,V.share,V.shareL,lst_share,wks_shareL,frss_shareL]
@[simp] theorem Cl.snap (t : Bool) (x : Cl) (q : St) : V.snap q (x.v t) = some (x.v false) := by simp [Cl.v,V.snap,V.snapL,mp,wks_shareL,frss_shareL]
@[simp] theorem Cl.snapA (t : Bool) (x : Cl) (q : St) : V.snapA q (x.v t) = some (x.v false) := Cl.snap t x q
@[simp] theorem Cl.snapP (t : Bool) (x : Cl) (q : St) : V.snapP q (x.v t) = some (x.v false) := Cl.snap t x q
@[simp] theorem Cl.accM (t : Bool) (x : Cl) : V.accM (x.v t) = [] := by simp [Cl.v,V.accM,V.accML]
@[simp] theorem Cl.accF (t : Bool) (x : Cl) : V.accF (x.v t) = [] := by simp [Cl.v,V.accF,V.accFL]
@[simp] theorem Cl.ren (t : Bool) (x : Cl) (ρ : Nat → Option Nat) (vr : Nat → Nat) : V.ren ρ vr (x.v t) = x.v t := by simp [Cl.v,V.ren,V.renL]
@[simp] theorem Cl.bA (i : Nat) (t : Bool) (x : Cl) (r : List V) : bindArgs i (x.v t :: r) = ((i,x.v t) :: (bindArgs (i + 1) r).1,(bindArgs (i + 1) r).2) := rfl
@[simp] theorem Cl.lodF (x : Cl) (o i ver : Nat) (fs : List Nat) : V.lod o i ver fs (x.v false) = x.v false := by simp [Cl.v,V.lod,V.lodL]
@[simp] theorem Cl.fzF (x : Cl) (s : St) : V.fz (x.v false) s = some (x.v false,s) := by simp [Cl.v,V.fz,V.fzL,mp]
@[simp] theorem Cl.scal (t : Bool) (x : Cl) : V.scal (x.v t) = false := by simp [Cl.v,V.scal,V.scalL]
@[simp] theorem Cl.isTup (t : Bool) (x : Cl) : (x.v t).isTup = false := rfl
@[simp] theorem Cl.tidyT (x : Cl) : V.tidy (x.v true) = true := by simp [Cl.v,V.tidy,V.tidyL,nds_tidyC,wks_tidyT,frss_tidyT]
@[simp] theorem Cl.thawF (x : Cl) (id : Nat) : V.thaw id (x.v false) = (x.v false,[],id) := by simp [Cl.v,V.thaw,V.thawL]
@[simp] theorem Cl.thawT (x : Cl) (id : Nat) : V.thaw id (x.v true) = (.agg [.ref (id) 0 x.plan.length,.ref (id + 1) 0 x.workers.length,.ref (id + 1 + 1) 0 x.links.length],[(id,⟨false,false,7,nds true 1 x.plan,0⟩),(id + 1,⟨false,false,7,wks true x.workers,0⟩),(id + 1 + 1,⟨false,false,1,frss true x.links,0⟩)],id + 1 + 1 + 1) := by simp [Cl.v,V.thaw,V.thawL]
def w_Frss (l : List (List Fr)) : Nat := l.length + wS w_Frs l
theorem w_Frss_mem {l : List (List Fr)} {x : List Fr} (h : x ∈ l) : l.length + w_Frs x ≤ w_Frss l := by
  have := wS_mem (f:=w_Frs) h;unfold w_Frss;omega
theorem w_Frss_len {l : List (List Fr)} : l.length ≤ w_Frss l := by unfold w_Frss;omega
theorem l_eq_Frss (l m : List (List Fr)) (h : w_Frss l < 2000000) (h2 : w_Frss m < 2000000) (hlm : l.length = m.length) : ∀ i : Nat,(i ≤ l.length) → ∀ s,normE 2 (some [0,1,5]) s = ⟨[(0,.lst false 0 (frss false l)),(1,.lst false 0 (frss false m)),(5,.int .i64 i)],[],2⟩ →
 oc.loop 213 4 s = some (if l.drop i = m.drop i then (.exit 0,⟨[],[],2⟩) else (.ret,⟨[(4,.bool false)],[],2⟩)) := by
 refine loop_ind (σ:=Nat) (fun i => l.length - i) _ (fun i => ⟨[(0,.lst false 0 (frss false l)),(1,.lst false 0 (frss false m)),(5,.int .i64 i)],[],2⟩) _ ?_
 intro i hi ih s hs
 refine loop_s cd213 rfl rfl hs ?_
 have hl1 := w_Frss_len (l:=l)
 refine wa_ (wa_ (wc_region (w_ (m_ (h:=w_ (m_ (h:=w_ (le (h:=w_ (b_ (h:=wo_nil (e_ (h:=aft_normal (?_))))))))))))))
 refine c_ (h1:=?_) (h2:=?_)
 rotate_right 1
 focus
  intro c1
  simp at c1;have : i = l.length := (by omega);subst this
  refine wc_exit (?_)
 rotate_right 1
 focus
  intro c1
  simp at c1;have hw := wrap_succ (i:=i) (by omega);obtain ⟨x,hx,d1,g1⟩ := frss_cut (t:=false) c1;obtain ⟨y,hy,d2,g2⟩ := frss_cut (t:=false) (l:=m) (i:=i) (by omega);have m1 := w_Frss_mem (List.mem_of_getElem? hx);have m2 := w_Frss_mem (List.mem_of_getElem? hy)
  refine wc_skip (?_)
 all_goals first
 | refine aft_exit ?_
 | (
  refine aft_normal ?_
  refine wa_ (wc_block (wa_ (wc_draw (y_ (m_ (h:=ax_ (h:=y_ (m_ (h:=ax_ (h:=y_ (x_ (h:=ax_ (h:=y_ (l_ (h:=ax_ (h:=y_ (m_ (h:=ax_ (h:=y_ (m_ (h:=ax_ (h:=y_ (x_ (h:=ax_ (h:=y_ (l_ (h:=ax_ (h:=?_))))))))))))))))))))))))))))
  refine y_ (ca (hc:=eq_Frs x y (by omega) (by omega)) (h:=ax_ (h:=y_ (u_ (h:=ax_ (h:=wo_nil (ed (h:=aft_normal (?_)))))))))
  refine c_ (h1:=?_) (h2:=?_)
  rotate_right 1
  focus
   intro c2
   refine wc_skip (?_)
  rotate_right 1
  focus
   intro c2
   refine wa_ (wc_region (w_ (a_ (h:=wo_nil (e_ (h:=aft_normal (wc_ret (?_))))))))
  all_goals first | refine blk_normal ?_ | refine blk_ret ?_
  all_goals first
  | refine aft_ret ?_
  | (
   refine aft_normal ?_
   refine wc_region (w_ (m_ (h:=w_ (b_ (h:=w_ (a_ (h:=wo_nil (e_ (h:=?_)))))))))
   )
  )
 all_goals first
 | (refine (ih (i + 1) (by omega) ?_ _ ?_).trans ?_;(focus (first | omega | (simp;done) | (simp;omega)));(focus (simp [normE,hw];done));(focus (simp at c2;rw [d1,d2];simp [c2])))
 | (apply end_leaf (ex:=Ext.ret) 2 (some [4]);(focus (simp [normE];rfl));(focus (simp at c2;rw [d1,d2];simp [c2])))
 | (apply end_leaf (ex:=(Ext.exit 0)) 2 (some [4]);(focus (simp [normE];rfl));(focus (rw [if_pos (by simp [hlm])])))
theorem eq_Frss (l m : List (List Fr)) (h : w_Frss l < 2000000) (h2 : w_Frss m < 2000000) : oc.call 213 [.lst false 0 (frss false l),.lst false 0 (frss false m)] = some (.bool (decide (l = m)),[]) := by
 refine fun_s rfl cd213 rfl rfl rfl (by simp;rfl) (by simp;rfl) ?_
 refine wa_ (wc_region (w_ (a_ (h:=wo_nil (e_ (h:=aft_normal (wa_ (wa_ (wc_region (w_ (m_ (h:=w_ (le (h:=w_ (m_ (h:=w_ (le (h:=?_))))))))))))))))))
 refine w_ (bE (h:=wo_nil (e_ (h:=aft_normal (?_)))))
 refine c_ (h1:=?_) (h2:=?_)
 rotate_right 1
 focus
  intro c1
  simp at c1
  refine wc_skip (?_)
 rotate_right 1
 focus
  intro c1
  simp at c1;have hne : l ≠ m := (by rintro rfl;exact c1 rfl)
  refine wa_ (wc_region (w_ (a_ (h:=wo_nil (e_ (h:=aft_normal (wc_ret (?_))))))))
 all_goals first
 | refine aft_ret ?_
 | (
  refine aft_normal ?_
  refine wa_ (wa_ (wc_region (w_ (a_ (h:=wo_nil (e_ (h:=aft_normal (wc_block (?_)))))))))
  refine wc_loopI (l_eq_Frss l m h h2 (by omega) 0 (by omega) _ (by simp [normE])) ?_ ?_
  rotate_right 1
  focus
   intro c2
   skip
  rotate_right 1
  focus
   intro c2
   skip
  all_goals first | refine blk_ret ?_ | refine blk_exit ?_
  all_goals first
  | refine aft_ret ?_
  | (
   refine aft_normal ?_
   refine wa_ (wc_region (w_ (a_ (h:=wo_nil (e_ (h:=aft_normal (wc_ret (?_))))))))
   )
  )
 all_goals (refine fin_ (hr:=(res_tmp rfl res_nil)) (h:=?_);(focus (first | (simp_all;done) | (simp_all <;> omega) | (simp_all <;> split <;> simp_all <;> omega))))
theorem eq_Cl (x : Cl) (h1 : x.plan.length < 2000000) (h2 : okN x.plan) (h3 : w_Wks x.workers < 2000000) (h4 : w_Frss x.links < 2000000) : oc.call 141 [x.v false,x.v false] = some (.bool true,[]) := by
 refine fun_s rfl cd141 rfl rfl rfl (by simp;rfl) (by simp;rfl) ?_
 refine wa_ (wc_region (w_ (bx (h:=w_ (bx (h:=w_ (a_ (h:=wo_nil (e_ (h:=aft_normal (wa_ (wa_ (wc_region (w_ (f_ (h:=w_ (l_ (h:=?_))))))))))))))))))
 refine w_ (f_ (h:=w_ (l_ (h:=w_ (ca (hc:=e_eqNS x.plan x.plan 0 0 h1 h1 h2 h2) (h:=w_ (u_ (h:=wo_nil (e_ (h:=aft_normal (?_)))))))))))
 refine c_ (h1:=?_) (h2:=?_)
 rotate_right 1
 focus
  intro c1
  first
  | exact dn c1
  | (
   have d1 := c1;try simp at d1
   refine wc_skip (?_)
   )
 rotate_right 1
 focus
  intro c1
  first
  | exact dn c1
  | (
   have d1 := c1;try simp at d1
   refine wa_ (wc_region (w_ (a_ (h:=wo_nil (e_ (h:=aft_normal (wc_ret (?_))))))))
   )
 all_goals first
 | refine aft_ret ?_
 | (
  refine aft_normal ?_
  refine wa_ (wa_ (wc_region (w_ (f_ (h:=w_ (l_ (h:=w_ (f_ (h:=w_ (l_ (h:=w_ (ca (hc:=eq_Wks x.workers x.workers h3 h3) (h:=w_ (u_ (h:=wo_nil (e_ (h:=aft_normal (?_))))))))))))))))))
  refine c_ (h1:=?_) (h2:=?_)
  rotate_right 1
  focus
   intro c2
   first
   | exact dn c2
   | (
    have d2 := c2;try simp at d2
    refine wc_skip (?_)
    )
  rotate_right 1
  focus
   intro c2
   first
   | exact dn c2
   | (
    have d2 := c2;try simp at d2
    refine wa_ (wc_region (w_ (a_ (h:=wo_nil (e_ (h:=aft_normal (wc_ret (?_))))))))
    )
  all_goals first
  | refine aft_ret ?_
  | (
   refine aft_normal ?_
   refine wa_ (wa_ (wc_region (w_ (f_ (h:=w_ (l_ (h:=w_ (f_ (h:=w_ (l_ (h:=w_ (ca (hc:=eq_Frss x.links x.links h4 h4) (h:=w_ (u_ (h:=wo_nil (e_ (h:=aft_normal (?_))))))))))))))))))
   refine c_ (h1:=?_) (h2:=?_)
   rotate_right 1
   focus
    intro c3
    first
    | exact dn c3
    | (
     have d3 := c3;try simp at d3
     refine wc_skip (?_)
     )
   rotate_right 1
   focus
    intro c3
    first
    | exact dn c3
    | (
     have d3 := c3;try simp at d3
     refine wa_ (wc_region (w_ (a_ (h:=wo_nil (e_ (h:=aft_normal (wc_ret (?_))))))))
     )
   all_goals first
   | refine aft_ret ?_
   | (
    refine aft_normal ?_
    refine wa_ (wc_region (w_ (a_ (h:=wo_nil (e_ (h:=aft_normal (wc_ret (?_))))))))
    )
   )
  )
 all_goals (refine fin_ (hr:=(res_tmp rfl res_nil)) (h:=?_);(focus (simp)))
def cn_Frss (l : List (List Fr)) : Nat := wS cn_Frs l
def mk_Frss (k : Int) : List (List Fr) → List (List Fr)
  | [] => []
  | x :: r => mk_Frs k x :: mk_Frss (k + (cn_Frs x : Nat)) r
@[simp] theorem mk_Frss_len {k : Int} {l : List (List Fr)} : (mk_Frss k l).length = l.length := by
  induction l generalizing k with
  | nil => rfl
  | cons x r ih => simp [mk_Frss,ih]
@[simp] theorem mk_Frss_take {k : Int} {l : List (List Fr)} : (mk_Frss k l).take l.length = mk_Frss k l := List.take_of_length_le (by simp)
theorem mk_Frss_at {k : Int} {l : List (List Fr)} {i : Nat} {x : List Fr} (h : l[i]? = some x) : (mk_Frss k l)[i]? = some (mk_Frs (k + (cn_Frss (l.take i) : Nat)) x) := by
  induction l generalizing k i with
  | nil => simp at h
  | cons y r ih =>
    cases i with
    | zero => simp at h;subst h;simp [mk_Frss,cn_Frss]
    | succ i => simp at h;simp only [mk_Frss,List.getElem?_cons_succ,ih h,List.take_succ_cons,cn_Frss,wS_cons];congr 2;push_cast;omega
theorem l_mk_Frss (k : Int) (l : List (List Fr)) (hk : 0 ≤ k) (hl : l.length < 2000000) (hb : k + (cn_Frss l : Nat) < 1000000000000000000) : ∀ x : Nat × (List (List Fr)),(x.1 ≤ l.length ∧ x.2.length = l.length ∧ x.2.take x.1 = (mk_Frss k l).take x.1 ∧ x.2.drop x.1 = l.drop x.1) → ∀ s,normE 2 (some [0,1,5]) s = ⟨[(0,.ref 0 0 l.length),(1,.int .i64 (k + (cn_Frss (l.take x.1) : Nat))),(5,.int .i64 x.1)],[(0,⟨false,true,1,frss true x.2,0⟩)],2⟩ →
 oc.loop 215 2 s = some (.exit 0,⟨[(1,.int .i64 (k + (cn_Frss l : Nat)))],[(0,⟨false,true,1,frss true (mk_Frss k l),0⟩)],2⟩) := by
 refine loop_ind (σ:=Nat × (List (List Fr))) (fun x => l.length - x.1) _ (fun x => ⟨[(0,.ref 0 0 l.length),(1,.int .i64 (k + (cn_Frss (l.take x.1) : Nat))),(5,.int .i64 x.1)],[(0,⟨false,true,1,frss true x.2,0⟩)],2⟩) _ ?_
 rintro ⟨i,r⟩ hi ih s hs
 simp only at hi
 refine loop_s cd215 rfl rfl hs ?_
 obtain ⟨hi1,hi2,hi3,hi4⟩ := hi
 refine wa_ (wa_ (wc_region (w_ (m_ (h:=w_ (m_ (h:=w_ (le (h:=w_ (b_ (h:=wo_nil (e_ (h:=aft_normal (?_))))))))))))))
 refine c_ (h1:=?_) (h2:=?_)
 rotate_right 1
 focus
  intro c1
  simp at c1;obtain rfl : i = l.length := (by omega);obtain rfl : r = mk_Frss k l := (by rw [List.take_of_length_le (by omega),List.take_of_length_le (by simp)] at hi3;exact hi3)
  refine wc_exit (?_)
 rotate_right 1
 focus
  intro c1
  simp at c1;have hw := wrap_succ (i:=i) (by omega);obtain ⟨y,hx,_,_⟩ := frss_cut (t:=false) (l:=l) (i:=i) c1;have hy : r[i]? = some y := (by have := congrArg (fun q => q[0]?) hi4;simpa [hx] using this);have g2 : (frss true r)[i]? = some (.lst true 6 (frs true y)) := (by simp [frss,hy]);have hcut := wS_cut (f:=cn_Frs) hx;have hle := wS_take (f:=cn_Frs) (l:=l) (i:=i + 1);change cn_Frss (l.take (i + 1)) = cn_Frss (l.take i) + cn_Frs y at hcut;change cn_Frss (l.take (i + 1)) ≤ cn_Frss l at hle;have hw1 : k + (cn_Frss (l.take i) : Nat) + (cn_Frs y : Nat) = k + ((cn_Frss (l.take (i + 1)) : Nat) : Int) := (by rw [hcut];omega)
  refine wc_skip (?_)
 all_goals first
 | refine aft_exit ?_
 | (
  refine aft_normal ?_
  refine wa_ (wc_block (wc_region (w_ (m_ (h:=w_ (m_ (h:=w_ (x_ (h:=w_ (l_ (h:=w_ (m_ (h:=?_)))))))))))))
  first | refine ip (hc:=mkf_Frs (k + (cn_Frss (l.take i) : Nat)) y (by omega) (by omega)) (h:=?_) | refine iq (hc:=mkf_Frs (k + (cn_Frss (l.take i) : Nat)) y (by omega) (by omega)) (h:=?_)
  refine w_ (a_ (h:=wo_nil (e_ (h:=blk_normal (aft_normal (wc_region (w_ (m_ (h:=w_ (b_ (h:=w_ (a_ (h:=wo_nil (e_ (h:=?_)))))))))))))))
  )
 all_goals first
 | (refine (ih ((i + 1,r.set i (mk_Frs (k + (cn_Frss (l.take i) : Nat)) y))) (⟨by simp;omega,by simpa using hi2,set_take hi3 (by simpa using hi2) (mk_Frss_at hx),set_drop hi4⟩) ?_ _ ?_).trans ?_;(focus (first | omega | (simp;done) | (simp;omega)));(focus (simp [normE,hw,hw1];done));(focus (rfl)))
 | (apply end_leaf (ex:=(Ext.exit 0)) 2 (some [1]);(focus (simp [normE];rfl));(focus (simp)))
theorem mkf_Frss (k : Int) (l : List (List Fr)) (hk : 0 ≤ k) (hl : l.length < 2000000) (hb : k + (cn_Frss l : Nat) < 1000000000000000000) : oc.call 215 [.iol 1 (frss true l),.int .i64 k] = some (.int .i64 (k + (cn_Frss l : Nat)),[.lst true 1 (frss true (mk_Frss k l))]) := by
 refine fun_s rfl cd215 rfl rfl rfl (by simp;rfl) (by simp;rfl) ?_
 refine wa_ (wc_region (w_ (a_ (h:=wo_nil (e_ (h:=aft_normal (wa_ (wa_ (wc_region (w_ (a_ (h:=wo_nil (e_ (h:=aft_normal (wc_block (?_))))))))))))))))
 refine wc_loop (l_mk_Frss k l hk hl hb (0,l) (by simp) _ (by simp [normE,cn_Frss])) ?_
 refine blk_exit (aft_normal (wa_ (wc_region (w_ (m_ (h:=w_ (a_ (h:=wo_nil (e_ (h:=aft_normal (wc_ret (?_))))))))))))
 all_goals (refine fin_ (hr:=(res_tmp rfl res_nil)) (h:=?_);(focus (first | (simp_all;done) | (simp_all <;> omega) | (simp_all <;> split <;> simp_all <;> omega))))
theorem l_held_Frss (k : Int) (l : List (List Fr)) (hk : 0 ≤ k) (hl : l.length < 2000000) (hb : k + (cn_Frss l : Nat) < 1000000000000000000) : ∀ i : Nat,(i ≤ l.length) → ∀ s,normE 2 (some [0,1,5]) s = ⟨[(0,.lst false 0 (frss false (mk_Frss k l))),(1,.int .i64 (k + (cn_Frss (l.take i) : Nat))),(5,.int .i64 i)],[],2⟩ →
 oc.loop 218 2 s = some (.exit 0,⟨[(1,.int .i64 (k + (cn_Frss l : Nat)))],[],2⟩) := by
 refine loop_ind (σ:=Nat) (fun i => l.length - i) _ (fun i => ⟨[(0,.lst false 0 (frss false (mk_Frss k l))),(1,.int .i64 (k + (cn_Frss (l.take i) : Nat))),(5,.int .i64 i)],[],2⟩) _ ?_
 intro i hi ih s hs
 refine loop_s cd218 rfl rfl hs ?_
 refine wa_ (wa_ (wc_region (w_ (m_ (h:=w_ (m_ (h:=w_ (le (h:=w_ (b_ (h:=wo_nil (e_ (h:=aft_normal (?_))))))))))))))
 refine c_ (h1:=?_) (h2:=?_)
 rotate_right 1
 focus
  intro c1
  first
  | exact dn c1
  | (
   have d1 := c1;try simp at d1
   obtain rfl : i = l.length := (by omega)
   refine wc_exit (?_)
   )
 rotate_right 1
 focus
  intro c1
  first
  | exact dn c1
  | (
   have d1 := c1;try simp at d1
   have hc1 : i < l.length := (by simpa using d1);have hw := wrap_succ (i:=i) (by omega);obtain ⟨y,hx,_,_⟩ := frss_cut (t:=false) (l:=l) (i:=i) hc1;have g2 : (frss false (mk_Frss k l))[i]? = some (.lst false 0 (frs false (mk_Frs (k + (cn_Frss (l.take i) : Nat)) y))) := (by simp [frss,mk_Frss_at hx]);have hcut := wS_cut (f:=cn_Frs) hx;have hle := wS_take (f:=cn_Frs) (l:=l) (i:=i + 1);change cn_Frss (l.take (i + 1)) = cn_Frss (l.take i) + cn_Frs y at hcut;change cn_Frss (l.take (i + 1)) ≤ cn_Frss l at hle;have hw1 : k + (cn_Frss (l.take i) : Nat) + (cn_Frs y : Nat) = k + ((cn_Frss (l.take (i + 1)) : Nat) : Int) := (by rw [hcut];omega)
   refine wc_skip (?_)
   )
 all_goals first
 | refine aft_exit ?_
 | (
  refine aft_normal ?_
  refine wa_ (wc_block (wa_ (wc_region (w_ (m_ (h:=w_ (m_ (h:=w_ (x_ (h:=w_ (l_ (h:=w_ (m_ (h:=w_ (ca (hc:=held_Frs (k + (cn_Frss (l.take i) : Nat)) y (by omega) (by omega)) (h:=w_ (a_ (h:=wo_nil (e_ (h:=?_))))))))))))))))))))
  refine aft_normal (wa_ (wc_region (w_ (m_ (h:=w_ (b_ (h:=wo_nil (e_ (h:=aft_normal (?_))))))))))
  refine c_ (h1:=?_) (h2:=?_)
  rotate_right 1
  focus
   intro c2
   first
   | exact dn c2
   | (
    have d2 := c2;try simp at d2
    refine wc_skip (?_)
    )
  rotate_right 1
  focus
   intro c2
   first
   | exact dn c2
   | (
    have d2 := c2;try simp at d2
    refine wa_ (wc_region (w_ (a_ (h:=wo_nil (e_ (h:=aft_normal (wc_ret (?_))))))))
    )
  all_goals first | refine blk_normal ?_ | refine blk_ret ?_
  all_goals first
  | refine aft_ret ?_
  | (
   refine aft_normal ?_
   refine wc_region (w_ (m_ (h:=w_ (b_ (h:=w_ (a_ (h:=wo_nil (e_ (h:=?_)))))))))
   )
  )
 all_goals first
 | (refine (ih (i + 1) (by omega) ?_ _ ?_).trans ?_;(focus (first | omega | (simp;done) | (simp;omega)));(focus (simp [normE,hw,hw1];done));(focus (rfl)))
 | (apply end_leaf (ex:=(Ext.exit 0)) 2 (some [1,4]);(focus (simp [normE];rfl));(focus (simp)))
 | (apply end_leaf (ex:=Ext.ret) 2 (some [1,4]);(focus (simp [normE];rfl));(focus (exfalso;clear ih hs hw;omega)))
theorem held_Frss (k : Int) (l : List (List Fr)) (hk : 0 ≤ k) (hl : l.length < 2000000) (hb : k + (cn_Frss l : Nat) < 1000000000000000000) : oc.call 218 [.lst false 0 (frss false (mk_Frss k l)),.int .i64 k] = some (.int .i64 (k + (cn_Frss l : Nat)),[]) := by
 refine fun_s rfl cd218 rfl rfl rfl (by simp;rfl) (by simp;rfl) ?_
 refine wa_ (wc_region (w_ (a_ (h:=wo_nil (e_ (h:=aft_normal (wa_ (wa_ (wc_region (w_ (a_ (h:=wo_nil (e_ (h:=aft_normal (wc_block (?_))))))))))))))))
 refine wc_loop (l_held_Frss k l hk hl hb 0 (by omega) _ (by simp [normE,cn_Frss])) ?_
 first | refine blk_ret ?_ | refine blk_exit ?_
 all_goals first
 | refine aft_ret ?_
 | (
  refine aft_normal ?_
  refine wa_ (wc_region (w_ (m_ (h:=w_ (a_ (h:=wo_nil (e_ (h:=aft_normal (wc_ret (?_))))))))))
  )
 all_goals (refine fin_ (hr:=(res_tmp rfl res_nil)) (h:=?_);(focus (first | (simp_all;done) | (simp_all <;> omega) | (simp_all <;> split <;> simp_all <;> omega))))
def cn_Cl (x : Cl) : Nat := cn_Nds x.plan + cn_Wks x.workers + cn_Frss x.links
def mk_Cl (k : Int) (x : Cl) : Cl := ⟨mk_Nds k x.plan,mk_Wks (k + (cn_Nds x.plan : Nat)) x.workers,mk_Frss (k + (cn_Nds x.plan : Nat) + (cn_Wks x.workers : Nat)) x.links⟩
theorem e_heldCl (k : Int) (x : Cl) (hk : 0 ≤ k) (hl : x.links.length < 2000000) (hb : k + (cn_Cl x : Nat) < 1000000000000000000) : oc.call 143 [(mk_Cl k x).v false,.int .i64 k] = some (.int .i64 (k + (cn_Cl x : Nat)),[]) := by
 refine fun_s rfl cd143 rfl rfl rfl (by simp;rfl) (by simp;rfl) ?_
 unfold cn_Cl at hb
 refine wa_ (wc_region (w_ (bx (h:=w_ (a_ (h:=wo_nil (e_ (h:=aft_normal (wa_ (wc_region (w_ (f_ (h:=w_ (l_ (h:=w_ (m_ (h:=w_ (ca (hc:=held_Nds k x.plan hk (by omega)) (h:=?_)))))))))))))))))))
 refine w_ (a_ (h:=wo_nil (e_ (h:=aft_normal (wa_ (wa_ (wc_region (w_ (m_ (h:=w_ (b_ (h:=wo_nil (e_ (h:=aft_normal (?_)))))))))))))))
 refine c_ (h1:=?_) (h2:=?_)
 rotate_right 1
 focus
  intro c1
  first
  | exact dn c1
  | (
   have d1 := c1;try simp at d1
   refine wc_skip (?_)
   )
 rotate_right 1
 focus
  intro c1
  first
  | exact dn c1
  | (
   have d1 := c1;try simp at d1
   refine wa_ (wc_region (w_ (a_ (h:=wo_nil (e_ (h:=aft_normal (wc_ret (?_))))))))
   )
 all_goals first
 | refine aft_ret ?_
 | (
  refine aft_normal ?_
  refine wa_ (wc_region (w_ (f_ (h:=w_ (l_ (h:=w_ (m_ (h:=w_ (ca (hc:=held_Wks (k + (cn_Nds x.plan : Nat)) x.workers (by omega) (by omega)) (h:=w_ (a_ (h:=wo_nil (e_ (h:=aft_normal (wa_ (wa_ (wc_region (?_))))))))))))))))))
  refine w_ (m_ (h:=w_ (b_ (h:=wo_nil (e_ (h:=aft_normal (?_)))))))
  refine c_ (h1:=?_) (h2:=?_)
  rotate_right 1
  focus
   intro c2
   first
   | exact dn c2
   | (
    have d2 := c2;try simp at d2
    refine wc_skip (?_)
    )
  rotate_right 1
  focus
   intro c2
   first
   | exact dn c2
   | (
    have d2 := c2;try simp at d2
    refine wa_ (wc_region (w_ (a_ (h:=wo_nil (e_ (h:=aft_normal (wc_ret (?_))))))))
    )
  all_goals first
  | refine aft_ret ?_
  | (
   refine aft_normal ?_
   refine wa_ (wc_region (w_ (f_ (h:=w_ (l_ (h:=w_ (m_ (h:=w_ (ca (hc:=held_Frss (k + (cn_Nds x.plan : Nat) + (cn_Wks x.workers : Nat)) x.links (by omega) hl (by omega)) (h:=w_ (a_ (h:=wo_nil (e_ (h:=aft_normal (wa_ (wa_ (wc_region (?_))))))))))))))))))
   refine w_ (m_ (h:=w_ (b_ (h:=wo_nil (e_ (h:=aft_normal (?_)))))))
   refine c_ (h1:=?_) (h2:=?_)
   rotate_right 1
   focus
    intro c3
    first
    | exact dn c3
    | (
     have d3 := c3;try simp at d3
     refine wc_skip (?_)
     )
   rotate_right 1
   focus
    intro c3
    first
    | exact dn c3
    | (
     have d3 := c3;try simp at d3
     refine wa_ (wc_region (w_ (a_ (h:=wo_nil (e_ (h:=aft_normal (wc_ret (?_))))))))
     )
   all_goals first
   | refine aft_ret ?_
   | (
    refine aft_normal ?_
    refine wa_ (wc_region (w_ (m_ (h:=w_ (a_ (h:=wo_nil (e_ (h:=aft_normal (wc_ret (?_))))))))))
    )
   )
  )
 all_goals (refine fin_ (hr:=(res_tmp rfl res_nil)) (h:=?_);(focus (first | (simp [cn_Cl] at *;omega) | (simp [cn_Cl] at *;done))))
theorem e_heldClr (c k : Int) (x : Cl) (hk : 0 ≤ k) (hl : x.links.length < 2000000) (hb : k + (cn_Cl x : Nat) < 1000000000000000000) : oc.call 67 [.agg [.int .i64 c,(mk_Cl k x).v false],.int .i64 k] = some (.int .i64 (k + (cn_Cl x : Nat)),[]) := by
 refine fun_s rfl cd67 rfl rfl rfl (by simp;rfl) (by simp;rfl) ?_
 refine wa_ (wc_region (w_ (bx (h:=w_ (a_ (h:=wo_nil (e_ (h:=aft_normal (wa_ (wc_region (w_ (f_ (h:=w_ (l_ (h:=w_ (m_ (h:=w_ (ca (hc:=e_heldCl k x hk hl hb) (h:=?_)))))))))))))))))))
 refine w_ (a_ (h:=wo_nil (e_ (h:=aft_normal (wa_ (wa_ (wc_region (w_ (m_ (h:=w_ (b_ (h:=wo_nil (e_ (h:=aft_normal (?_)))))))))))))))
 refine c_ (h1:=?_) (h2:=?_)
 rotate_right 1
 focus
  intro c1
  first
  | exact dn c1
  | (
   have d1 := c1;try simp at d1
   refine wc_skip (?_)
   )
 rotate_right 1
 focus
  intro c1
  first
  | exact dn c1
  | (
   have d1 := c1;try simp at d1
   refine wa_ (wc_region (w_ (a_ (h:=wo_nil (e_ (h:=aft_normal (wc_ret (?_))))))))
   )
 all_goals first
 | refine aft_ret ?_
 | (
  refine aft_normal ?_
  refine wa_ (wc_region (w_ (m_ (h:=w_ (a_ (h:=wo_nil (e_ (h:=aft_normal (wc_ret (?_))))))))))
  )
 all_goals (refine fin_ (hr:=(res_tmp rfl res_nil)) (h:=?_);(focus (first | (simp at *;omega) | (simp at *;done))))
theorem e_eqClr (c : Int) (x : Cl) (h1 : x.plan.length < 2000000) (h2 : okN x.plan) (h3 : w_Wks x.workers < 2000000) (h4 : w_Frss x.links < 2000000) : oc.call 65 [.agg [.int .i64 c,x.v false],.agg [.int .i64 c,x.v false]] = some (.bool true,[]) := by
 refine fun_s rfl cd65 rfl rfl rfl (by simp;rfl) (by simp;rfl) ?_
 refine wa_ (wc_region (w_ (bx (h:=w_ (bx (h:=w_ (a_ (h:=wo_nil (e_ (h:=aft_normal (wa_ (wa_ (wc_region (w_ (f_ (h:=w_ (l_ (h:=?_))))))))))))))))))
 refine w_ (f_ (h:=w_ (l_ (h:=w_ (bE (h:=wo_nil (e_ (h:=aft_normal (?_)))))))))
 refine c_ (h1:=?_) (h2:=?_)
 rotate_right 1
 focus
  intro c1
  first
  | exact dn c1
  | (
   have d1 := c1;try simp at d1
   refine wc_skip (?_)
   )
 rotate_right 1
 focus
  intro c1
  first
  | exact dn c1
  | (
   have d1 := c1;try simp at d1
   refine wa_ (wc_region (w_ (a_ (h:=wo_nil (e_ (h:=aft_normal (wc_ret (?_))))))))
   )
 all_goals first
 | refine aft_ret ?_
 | (
  refine aft_normal ?_
  refine wa_ (wa_ (wc_region (w_ (f_ (h:=w_ (l_ (h:=w_ (f_ (h:=w_ (l_ (h:=w_ (ca (hc:=eq_Cl x h1 h2 h3 h4) (h:=w_ (u_ (h:=wo_nil (e_ (h:=aft_normal (?_))))))))))))))))))
  refine c_ (h1:=?_) (h2:=?_)
  rotate_right 1
  focus
   intro c2
   first
   | exact dn c2
   | (
    have d2 := c2;try simp at d2
    refine wc_skip (?_)
    )
  rotate_right 1
  focus
   intro c2
   first
   | exact dn c2
   | (
    have d2 := c2;try simp at d2
    refine wa_ (wc_region (w_ (a_ (h:=wo_nil (e_ (h:=aft_normal (wc_ret (?_))))))))
    )
  all_goals first
  | refine aft_ret ?_
  | (
   refine aft_normal ?_
   refine wa_ (wc_region (w_ (a_ (h:=wo_nil (e_ (h:=aft_normal (wc_ret (?_))))))))
   )
  )
 all_goals (refine fin_ (hr:=(res_tmp rfl res_nil)) (h:=?_);(focus (simp)))
end Go.Proofs.Ytgkbmiaimjpbfaa.Ev
