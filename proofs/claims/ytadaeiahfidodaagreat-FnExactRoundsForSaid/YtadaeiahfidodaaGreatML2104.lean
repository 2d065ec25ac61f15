/- Part 4 of the proof that the law named in the last part returns true at every argument: an evaluator of the program, shown sound, and its runs. No further conditions. -/
import Derived.Test.YtadaeiahfidodaaGreatML2103
namespace Go.Proofs.YtadaeiahfidodaaGreat.Ev
open Go
set_option maxRecDepth 100000
set_option linter.unusedSimpArgs false
set_option linter.unusedVariables false
set_option maxHeartbeats 2000000
theorem l_eqI (a b : List Int) (z z' : Nat) (ha : a.length < 4000000000) (hab : a.length = b.length) : ∀ i : Nat,i ≤ a.length → ∀ s,normE 2 (some [0,1,5]) s = ⟨[(0,.lst false z (ints a)),(1,.lst false z' (ints b)),(5,.int .i64 i)],[],2⟩ →
 oc.loop 89 4 s = some (if a.drop i = b.drop i then (.exit 0,⟨[],[],2⟩) else (.ret,⟨[(4,.bool false)],[],2⟩)) := by
 refine loop_ind (fun i => a.length - i) _ (fun i => ⟨[(0,.lst false z (ints a)),(1,.lst false z' (ints b)),(5,.int .i64 i)],[],2⟩) _ ?_
 intro i hi ih s hs
 refine loop_s cd89 rfl rfl hs ?_
 refine wa_ (wa_ (wc_region (w_ (m_ (h:=w_ (m_ (h:=w_ (le (h:=w_ (b_ (h:=wo_nil (e_ (h:=aft_normal (?_))))))))))))))
 refine c_ (h1:=?_) (h2:=?_)
 rotate_right 1
 focus
  intro c1
  simp at c1;have : i = a.length := (by omega);subst this
  refine wc_exit (?_)
 rotate_right 1
 focus
  intro c1
  simp at c1;have hw := wrap_succ (i:=i) (by omega);obtain ⟨x,_,d1,g1⟩ := ints_cut c1;obtain ⟨y,_,d2,g2⟩ := ints_cut (l:=b) (i:=i) (by omega)
  refine wc_skip (?_)
 all_goals first
 | refine aft_exit ?_
 | (
  refine aft_normal ?_
  refine wa_ (wc_block (wa_ (wc_draw (y_ (m_ (h:=ax_ (h:=y_ (m_ (h:=ax_ (h:=y_ (x_ (h:=ax_ (h:=y_ (l_ (h:=ax_ (h:=y_ (m_ (h:=ax_ (h:=y_ (m_ (h:=ax_ (h:=y_ (x_ (h:=ax_ (h:=y_ (l_ (h:=ax_ (h:=y_ (bE (h:=ax_ (h:=wo_nil (ed (h:=aft_normal (?_))))))))))))))))))))))))))))))))))
  refine c_ (h1:=?_) (h2:=?_)
  rotate_right 1
  focus
   intro c2
   refine wc_skip (?_)
  rotate_right 1
  focus
   intro c2
   refine wa_ (wc_region (w_ (a_ (h:=wo_nil (e_ (h:=aft_normal (wc_ret (?_))))))))
  all_goals first | refine blk_normal ?_ | refine blk_ret ?_
  all_goals first
  | refine aft_ret ?_
  | (
   refine aft_normal ?_
   refine wc_region (w_ (m_ (h:=w_ (b_ (h:=w_ (a_ (h:=wo_nil (e_ (h:=?_)))))))))
   )
  )
 all_goals first
 | (refine (ih (i + 1) (by omega) ?_ _ ?_).trans ?_;(focus (first | omega | (simp;done) | (simp;omega)));(focus (simp [normE,hw];done));(focus (simp at c2;rw [d1,d2];simp [c2])))
 | (apply end_leaf (ex:=Ext.ret) 2 (some [4]);(focus (simp [normE];rfl));(focus (simp at c2;rw [d1,d2];simp [c2])))
 | (apply end_leaf (ex:=(Ext.exit 0)) 2 (some [4]);(focus (simp [normE];rfl));(focus (rw [if_pos (by simp [hab])])))
theorem e_eqI (a b : List Int) (z z' : Nat) (ha : a.length < 4000000000) (hb : b.length < 4000000000) : oc.call 89 [.lst false z (ints a),.lst false z' (ints b)] = some (.bool (decide (a = b)),[]) := by
 refine fun_s rfl cd89 rfl rfl rfl (by simp;rfl) (by simp;rfl) ?_
 refine wa_ (wc_region (w_ (a_ (h:=wo_nil (e_ (h:=aft_normal (wa_ (wa_ (wc_region (w_ (m_ (h:=w_ (le (h:=w_ (m_ (h:=w_ (le (h:=w_ (bE (h:=wo_nil (e_ (h:=aft_normal (?_)))))))))))))))))))))))
 refine c_ (h1:=?_) (h2:=?_)
 rotate_right 1
 focus
  intro c1
  simp at c1
  refine wc_skip (?_)
 rotate_right 1
 focus
  intro c1
  simp at c1;have hne : a ≠ b := (by rintro rfl;exact c1 rfl)
  refine wa_ (wc_region (w_ (a_ (h:=wo_nil (e_ (h:=aft_normal (wc_ret (?_))))))))
 all_goals first
 | refine aft_ret ?_
 | (
  refine aft_normal ?_
  refine wa_ (wa_ (wc_region (w_ (a_ (h:=wo_nil (e_ (h:=aft_normal (wc_block (?_)))))))))
  refine wc_loopI (l_eqI a b z z' ha (by omega) 0 (by omega) _ (by simp [normE])) ?_ ?_
  rotate_right 1
  focus
   intro c2
   skip
  rotate_right 1
  focus
   intro c2
   skip
  all_goals first | refine blk_ret ?_ | refine blk_exit ?_
  all_goals first
  | refine aft_ret ?_
  | (
   refine aft_normal ?_
   refine wa_ (wc_region (w_ (a_ (h:=wo_nil (e_ (h:=aft_normal (wc_ret (?_))))))))
   )
  )
 all_goals (refine fin_ (hr:=(res_tmp rfl res_nil)) (h:=?_);(focus (first | (simp_all;done) | (simp_all <;> omega) | (simp_all <;> split <;> simp_all <;> omega))))
theorem l_toI (a : List Int) (z : Nat) (ha : a.length < 2000000000) : ∀ x : Nat × List Int,(x.1 ≤ a.length ∧ x.2.length = a.length ∧ x.2.take x.1 = a.take x.1) → ∀ s,normE 1 (some [0,3,4]) s = ⟨[(0,.lst false z (ints a)),(3,.ref 1 0 a.length),(4,.int .i64 x.1)],[(1,⟨false,false,1,ints x.2,0⟩)],2⟩ →
 oc.loop 73 3 s = some (.exit 0,⟨[(3,.ref 1 0 a.length)],[(1,⟨false,false,1,ints a,0⟩)],2⟩) := by
 refine loop_ind (σ:=Nat × List Int) (fun x => a.length - x.1) _ (fun x => ⟨[(0,.lst false z (ints a)),(3,.ref 1 0 a.length),(4,.int .i64 x.1)],[(1,⟨false,false,1,ints x.2,0⟩)],2⟩) _ ?_
 rintro ⟨i,r⟩ ⟨hi,hr,ht⟩ ih s hs
 refine loop_s cd73 rfl rfl hs ?_
 refine wa_ (wa_ (wc_region (w_ (m_ (h:=w_ (m_ (h:=w_ (le (h:=w_ (b_ (h:=wo_nil (e_ (h:=aft_normal (?_))))))))))))))
 refine c_ (h1:=?_) (h2:=?_)
 rotate_right 1
 focus
  intro c1
  simp at c1 hi hr ht;have : i = a.length := (by omega);subst this;rw [← hr] at ht;simp at ht;rw [hr] at ht;simp at ht;subst ht
  refine wc_exit (?_)
 rotate_right 1
 focus
  intro c1
  simp at c1;have hw := wrap_succ (i:=i) (by omega);obtain ⟨x,hx,d1,g1⟩ := ints_cut c1;obtain ⟨y,hy,_,g2⟩ := ints_cut (l:=r) (i:=i) (by simp at hr;omega);simp at g2
  refine wc_skip (?_)
 all_goals first
 | refine aft_exit ?_
 | (
  refine aft_normal ?_
  refine wa_ (wc_block (wc_region (w_ (m_ (h:=w_ (m_ (h:=w_ (m_ (h:=w_ (m_ (h:=w_ (x_ (h:=w_ (l_ (h:=w_ (x_ (h:=w0 (s_ (h:=wo_nil (e_ (h:=blk_normal (aft_normal (wc_region (w_ (m_ (h:=w_ (b_ (h:=w_ (a_ (h:=wo_nil (e_ (h:=?_))))))))))))))))))))))))))))))))
  )
 all_goals first
 | (refine (ih ((i + 1,r.set i x)) (⟨by simp;omega,by simpa using hr,set_take ht hr hx⟩) ?_ _ ?_).trans ?_;(focus (first | omega | (simp;done) | (simp;omega)));(focus (simp [normE,hw];done));(focus (rfl)))
 | (apply end_leaf (ex:=(Ext.exit 0)) 1 (some [3]);(focus (simp [normE];rfl));(focus (simp)))
theorem e_toI (a : List Int) (z : Nat) (ha : a.length < 2000000000) : oc.call 73 [.lst false z (ints a)] = some (.lst true 1 (ints a),[]) := by
 refine fun_s rfl cd73 rfl rfl rfl (by simp;rfl) (by simp;rfl) ?_
 refine wa_ (wc_region (w_ (aN (h:=wo_nil (e_ (h:=aft_normal (wa_ (wc_region (w_ (m_ (h:=w_ (le (h:=w_ (mk (h:=w_ (a_ (h:=wo_nil (e_ (h:=aft_normal (wa_ (wa_ (wc_region (w_ (a_ (h:=wo_nil (e_ (h:=aft_normal (wc_block (?_)))))))))))))))))))))))))))))
 refine wc_loop (l_toI a z ha (0,List.replicate a.length 0) (by simp) _ (by simp [normE])) ?_
 refine blk_exit (aft_normal (wa_ (wc_region (w_ (m_ (h:=w_ (a_ (h:=wo_nil (e_ (h:=aft_normal (wc_ret (?_))))))))))))
 all_goals (refine fin_ (hr:=(res_tmp rfl res_nil)) (h:=?_);(focus (first | (simp_all;done) | (simp_all <;> omega) | (simp_all <;> split <;> simp_all <;> omega))))
def szI (c : Nat) (left : Int) : Int := if left < c then -1 else left - c
theorem e_szN (t : Bool) (sz : Nat) (d : Nd) (a : Int) (h : d.cells.length < 4611686018427387904) (ha : 0 ≤ a) (hb : a < 4000000000) : oc.call 38 [d.v false sz,.int .i64 a] = some (.int .i64 (szI d.cells.length a),[]) := by
 refine fun_s rfl cd38 rfl rfl rfl (by simp;rfl) (by simp;rfl) ?_
 unfold szI
 refine wa_ (wc_region (w_ (bx (h:=w_ (a_ (h:=wo_nil (e_ (h:=aft_normal (wa_ (wc_region (w_ (f_ (h:=w_ (l_ (h:=w_ (m_ (h:=w_ (ca (hc:=e_sz _ (ints d.cells) a (by simpa using (by omega)) ha (by omega)) (h:=w_ (a_ (h:=wo_nil (e_ (h:=aft_normal (wa_ (wa_ (wc_region (w_ (m_ (h:=w_ (b_ (h:=wo_nil (e_ (h:=aft_normal (?_))))))))))))))))))))))))))))))))))
 refine c_ (h1:=?_) (h2:=?_)
 rotate_right 1
 focus
  intro c1
  simp at c1
  refine wc_skip (?_)
 rotate_right 1
 focus
  intro c1
  simp at c1
  refine wa_ (wc_region (w_ (a_ (h:=wo_nil (e_ (h:=aft_normal (wc_ret (?_))))))))
 all_goals first
 | refine aft_ret ?_
 | (
  refine aft_normal ?_
  refine wa_ (wc_region (w_ (m_ (h:=w_ (a_ (h:=wo_nil (e_ (h:=aft_normal (wc_ret (?_))))))))))
  )
 all_goals (refine fin_ (hr:=(res_tmp rfl res_nil)) (h:=?_);(focus (first | (simp_all;done) | (simp_all <;> omega) | (simp_all <;> split <;> simp_all <;> omega))))
theorem szI_neg {c : Nat} {a : Int} (h : szI c a < 0) : szI c a = -1 := by
  unfold szI at *
  split at h
  · rw [if_pos (by assumption)]
  · omega
def szL : List Nd → Int → Int
  | [],left => left
  | d :: r,left => if szI d.cells.length left < 0 then -1 else szL r (szI d.cells.length left)
theorem szL_neg : ∀ {l : List Nd} {a : Int},0 ≤ a → szL l a < 0 → szL l a = -1
  | [],a,h0,h => by simp [szL] at h;omega
  | d :: r,a,h0,h => by
    unfold szL at *
    by_cases hc : szI d.cells.length a < 0
    · rw [if_pos hc]
    · rw [if_neg hc] at h ⊢
      exact szL_neg (by omega) h
theorem e_toN (sz : Nat) (d : Nd) (h : d.cells.length < 2000000000) : oc.call 44 [d.v false sz] = some (d.v true 1,[]) := by
 refine fun_s rfl cd44 rfl rfl rfl (by simp;rfl) (by simp;rfl) ?_
 refine wa_ (wc_region (w_ (bx (h:=w_ (al (h:=wo_nil (e_ (h:=aft_normal (wa_ (wc_region (w_ (al (h:=wo_nil (e_ (h:=aft_normal (wa_ (wc_region (w_ (f_ (h:=w_ (l_ (h:=w_ (f_ (h:=w0 (s_ (h:=wo_nil (e_ (h:=aft_normal (wa_ (wc_region (w_ (f_ (h:=w_ (l_ (h:=w_ (f_ (h:=w0 (s_ (h:=wo_nil (e_ (h:=aft_normal (wa_ (wc_region (w_ (f_ (h:=?_))))))))))))))))))))))))))))))))))))))))))))))
 refine w_ (l_ (h:=w_ (f_ (h:=w0 (s_ (h:=wo_nil (e_ (h:=aft_normal (wa_ (wc_region (w_ (f_ (h:=w_ (l_ (h:=w_ (f_ (h:=w0 (s_ (h:=wo_nil (e_ (h:=aft_normal (wa_ (wc_region (w_ (f_ (h:=w_ (l_ (h:=w_ (f_ (h:=w0 (s_ (h:=wo_nil (e_ (h:=aft_normal (wa_ (wc_region (w_ (f_ (h:=w_ (l_ (h:=w_ (f_ (h:=w0 (s_ (h:=wo_nil (e_ (h:=aft_normal (wa_ (?_)))))))))))))))))))))))))))))))))))))))))))))))))
 refine wc_region (w_ (f_ (h:=w_ (l_ (h:=w_ (ca (hc:=e_toI _ _ h) (h:=w_ (f_ (h:=w0 (s_ (h:=wo_nil (e_ (h:=aft_normal (wa_ (wc_region (w_ (l_ (h:=w0 (s_ (h:=wo_nil (e_ (h:=aft_normal (wc_ret (?_))))))))))))))))))))))))
 all_goals (refine fin_ (hr:=(res_cell (tys_ok.zero _ _ rfl) rfl (by simp;rfl) (by rfl) res_nil)) (h:=?_);(focus (simp [Nd.v])))
theorem e_eqN (sz sz' : Nat) (d g : Nd) (h : d.cells.length < 2000000000) (h' : g.cells.length < 2000000000) : oc.call 56 [d.v false sz,g.v false sz'] = some (.bool (decide (d = g)),[]) := by
 refine fun_s rfl cd56 rfl rfl rfl (by simp;rfl) (by simp;rfl) ?_
 refine wa_ (wc_region (w_ (bx (h:=w_ (bx (h:=w_ (a_ (h:=wo_nil (e_ (h:=aft_normal (wa_ (wa_ (wc_region (w_ (f_ (h:=w_ (l_ (h:=w_ (f_ (h:=w_ (l_ (h:=w_ (bE (h:=wo_nil (e_ (h:=aft_normal (?_)))))))))))))))))))))))))))
 refine c_ (h1:=?_) (h2:=?_)
 rotate_right 1
 focus
  intro c1
  refine wc_skip (?_)
 rotate_right 1
 focus
  intro c1
  refine wa_ (wc_region (w_ (a_ (h:=wo_nil (e_ (h:=aft_normal (wc_ret (?_))))))))
 all_goals first
 | refine aft_ret ?_
 | (
  refine aft_normal ?_
  refine wa_ (wa_ (wc_region (w_ (f_ (h:=w_ (l_ (h:=w_ (f_ (h:=w_ (l_ (h:=w_ (bE (h:=wo_nil (e_ (h:=aft_normal (?_))))))))))))))))
  refine c_ (h1:=?_) (h2:=?_)
  rotate_right 1
  focus
   intro c2
   refine wc_skip (?_)
  rotate_right 1
  focus
   intro c2
   refine wa_ (wc_region (w_ (a_ (h:=wo_nil (e_ (h:=aft_normal (wc_ret (?_))))))))
  all_goals first
  | refine aft_ret ?_
  | (
   refine aft_normal ?_
   refine wa_ (wa_ (wc_region (w_ (f_ (h:=w_ (l_ (h:=w_ (f_ (h:=w_ (l_ (h:=w_ (bE (h:=wo_nil (e_ (h:=aft_normal (?_))))))))))))))))
   refine c_ (h1:=?_) (h2:=?_)
   rotate_right 1
   focus
    intro c3
    refine wc_skip (?_)
   rotate_right 1
   focus
    intro c3
    refine wa_ (wc_region (w_ (a_ (h:=wo_nil (e_ (h:=aft_normal (wc_ret (?_))))))))
   all_goals first
   | refine aft_ret ?_
   | (
    refine aft_normal ?_
    refine wa_ (wa_ (wc_region (w_ (f_ (h:=w_ (l_ (h:=w_ (f_ (h:=w_ (l_ (h:=w_ (bE (h:=wo_nil (e_ (h:=aft_normal (?_))))))))))))))))
    refine c_ (h1:=?_) (h2:=?_)
    rotate_right 1
    focus
     intro c4
     refine wc_skip (?_)
    rotate_right 1
    focus
     intro c4
     refine wa_ (wc_region (w_ (a_ (h:=wo_nil (e_ (h:=aft_normal (wc_ret (?_))))))))
    all_goals first
    | refine aft_ret ?_
    | (
     refine aft_normal ?_
     refine wa_ (wa_ (wc_region (w_ (f_ (h:=w_ (l_ (h:=w_ (f_ (h:=w_ (l_ (h:=w_ (bE (h:=wo_nil (e_ (h:=aft_normal (?_))))))))))))))))
     refine c_ (h1:=?_) (h2:=?_)
     rotate_right 1
     focus
      intro c5
      refine wc_skip (?_)
     rotate_right 1
     focus
      intro c5
      refine wa_ (wc_region (w_ (a_ (h:=wo_nil (e_ (h:=aft_normal (wc_ret (?_))))))))
     all_goals first
     | refine aft_ret ?_
     | (
      refine aft_normal ?_
      refine wa_ (wa_ (wc_region (w_ (f_ (h:=w_ (l_ (h:=w_ (f_ (h:=w_ (l_ (h:=w_ (bE (h:=wo_nil (e_ (h:=aft_normal (?_))))))))))))))))
      refine c_ (h1:=?_) (h2:=?_)
      rotate_right 1
      focus
       intro c6
       refine wc_skip (?_)
      rotate_right 1
      focus
       intro c6
       refine wa_ (wc_region (w_ (a_ (h:=wo_nil (e_ (h:=aft_normal (wc_ret (?_))))))))
      all_goals first
      | refine aft_ret ?_
      | (
       refine aft_normal ?_
       refine wa_ (wa_ (wc_region (w_ (f_ (h:=w_ (l_ (h:=w_ (f_ (h:=w_ (l_ (h:=w_ (ca (hc:=e_eqI _ _ _ _ (by omega) (by omega)) (h:=w_ (u_ (h:=wo_nil (e_ (h:=aft_normal (?_))))))))))))))))))
       refine c_ (h1:=?_) (h2:=?_)
       rotate_right 1
       focus
        intro c7
        refine wc_skip (?_)
       rotate_right 1
       focus
        intro c7
        refine wa_ (wc_region (w_ (a_ (h:=wo_nil (e_ (h:=aft_normal (wc_ret (?_))))))))
       all_goals first
       | refine aft_ret ?_
       | (
        refine aft_normal ?_
        refine wa_ (wc_region (w_ (a_ (h:=wo_nil (e_ (h:=aft_normal (wc_ret (?_))))))))
        )
       )
      )
     )
    )
   )
  )
 all_goals (refine fin_ (hr:=(res_tmp rfl res_nil)) (h:=?_);(focus (simp_all [Nd.eq_iff])))
def okN (l : List Nd) : Prop := ∀ d ∈ l,d.cells.length < 2000000
def okB (l : List Nd) : Prop := l.length ≤ 140737488351232 ∧ ∀ d ∈ l,d.cells.length ≤ 140737488351232
theorem szI_le {c : Nat} {a : Int} (h : 0 ≤ szI c a) : (c : Int) ≤ a := by
  unfold szI at h
  split at h <;> omega
theorem szL_ok : ∀ {l : List Nd} {a : Int},0 ≤ szL l a → ∀ d ∈ l,(d.cells.length : Int) ≤ a
  | [],a,h,d,hd => by cases hd
  | x :: r,a,h,d,hd => by
    unfold szL at h
    by_cases hc : szI x.cells.length a < 0
    · rw [if_pos hc] at h;omega
    · rw [if_neg hc] at h
      have h1 := szI_le (c:=x.cells.length) (a:=a) (by omega)
      rcases List.mem_cons.1 hd with rfl | hd
      · exact h1
      · have := szL_ok h d hd
        unfold szI at this
        split at this <;> omega
theorem l_szN (l : List Nd) (sz : Nat) (ho : okB l) : ∀ x : Nat × Int,(x.1 ≤ l.length ∧ 0 ≤ x.2 ∧ x.2 < 2000000) → ∀ s,normE 2 (some [0,1,5]) s = ⟨[(0,.lst false 0 (nds false sz l)),(1,.int .i64 x.2),(5,.int .i64 x.1)],[],2⟩ →
 oc.loop 16 5 s = some (if 0 ≤ szL (l.drop x.1) x.2 then (.exit 0,⟨[(1,.int .i64 (szL (l.drop x.1) x.2))],[],2⟩) else (.ret,⟨[(1,.int .i64 (-1)),(4,.int .i64 (-1))],[],2⟩)) := by
 refine loop_ind (σ:=Nat × Int) (fun x => l.length - x.1) _ (fun x => ⟨[(0,.lst false 0 (nds false sz l)),(1,.int .i64 x.2),(5,.int .i64 x.1)],[],2⟩) _ ?_
 rintro ⟨i,a⟩ ⟨hi,ha,hb⟩ ih s hs
 have hl := ho.1
 refine loop_s cd16 rfl rfl hs ?_
 refine wa_ (wa_ (wc_region (w_ (m_ (h:=w_ (m_ (h:=w_ (le (h:=w_ (b_ (h:=wo_nil (e_ (h:=aft_normal (?_))))))))))))))
 refine c_ (h1:=?_) (h2:=?_)
 rotate_right 1
 focus
  intro c1
  simp at c1 hi ha;have : i = l.length := (by omega);subst this
  refine wc_exit (?_)
 rotate_right 1
 focus
  intro c1
  simp at c1;have hw := wrap_succ (i:=i) (by simp at hi;omega);obtain ⟨d,hx,d1,g1⟩ := nds_cut (t:=false) (s:=sz) c1;have hd := ho.2 d (List.mem_of_getElem? hx)
  refine wc_skip (?_)
 all_goals first
 | refine aft_exit ?_
 | (
  refine aft_normal ?_
  refine wa_ (wc_block (wa_ (wc_region (w_ (m_ (h:=w_ (m_ (h:=w_ (x_ (h:=w_ (l_ (h:=w_ (m_ (h:=w_ (ca (hc:=e_szN false 0 d a (by omega) ha (by simp at hb;omega)) (h:=w_ (a_ (h:=wo_nil (e_ (h:=aft_normal (wa_ (wc_region (w_ (m_ (h:=w_ (b_ (h:=wo_nil (e_ (h:=aft_normal (?_))))))))))))))))))))))))))))))
  refine c_ (h1:=?_) (h2:=?_)
  rotate_right 1
  focus
   intro c2
   refine wc_skip (?_)
  rotate_right 1
  focus
   intro c2
   refine wa_ (wc_region (w_ (a_ (h:=wo_nil (e_ (h:=aft_normal (wc_ret (?_))))))))
  all_goals first | refine blk_normal ?_ | refine blk_ret ?_
  all_goals first
  | refine aft_ret ?_
  | (
   refine aft_normal ?_
   refine wc_region (w_ (m_ (h:=w_ (b_ (h:=w_ (a_ (h:=wo_nil (e_ (h:=?_)))))))))
   )
  )
 all_goals first
 | (refine (ih ((i + 1,szI d.cells.length a)) (⟨by simp;omega,by simp at c2;exact c2,by unfold szI;split <;> simp at hb ⊢ <;> omega⟩) ?_ _ ?_).trans ?_;(focus (first | omega | (simp;done) | (simp;omega)));(focus (simp [normE,hw];done));(focus (simp at c2;simp only [d1,szL,if_neg (Int.not_lt.mpr c2)])))
 | (apply end_leaf (ex:=Ext.ret) 2 (some [1,4]);(focus (simp [normE];rfl));(focus (simp at c2;have := szI_neg c2;simp [d1,szL,this])))
 | (apply end_leaf (ex:=(Ext.exit 0)) 2 (some [1,4]);(focus (simp [normE];rfl));(focus (simp [szL];omega)))
def szP (l : List Nd) (a : Int) : Int := if a < l.length then -1 else szL l (a - l.length)
theorem szP_ok {l : List Nd} {a : Int} (ha : a < 2000000) (h : 0 ≤ szP l a) : l.length < 2000000 ∧ okN l ∧ szP l a ≤ a := by
  unfold szP at *
  split at h
  · omega
  · rename_i hl
    rw [if_neg hl]
    have h2 : ∀ (l : List Nd) (a : Int),0 ≤ a → szL l a ≤ a := by
      intro l
      induction l with
      | nil => intro a ha;simp [szL]
      | cons x r ih =>
        intro a ha
        unfold szL
        split
        · omega
        · have h3 : szI x.cells.length a ≤ a := by unfold szI;split <;> omega
          have := ih (szI x.cells.length a) (by omega)
          omega
    have := h2 l (a - l.length) (by omega)
    exact ⟨by omega,fun d hd => by have := szL_ok h d hd;omega,by omega⟩
theorem e_szNS (l : List Nd) (sz : Nat) (a : Int) (ho : okB l) (ha : 0 ≤ a) (hb : a < 2000000) : oc.call 16 [.lst false 0 (nds false sz l),.int .i64 a] = some (.int .i64 (szP l a),[]) := by
 refine fun_s rfl cd16 rfl rfl rfl (by simp;rfl) (by simp;rfl) ?_
 unfold szP
 have hl := ho.1
 have hw : IntKind.i64.wrap (a - l.length) = a - l.length := wrap_id (by omega) (by omega)
 refine wa_ (wc_region (w_ (a_ (h:=wo_nil (e_ (h:=aft_normal (wa_ (wc_region (w_ (m_ (h:=w_ (m_ (h:=w_ (le (h:=w_ (b_ (h:=w_ (a_ (h:=wo_nil (e_ (h:=aft_normal (wa_ (wa_ (wc_region (w_ (m_ (h:=w_ (b_ (h:=wo_nil (e_ (h:=aft_normal (?_))))))))))))))))))))))))))))))))
 refine c_ (h1:=?_) (h2:=?_)
 rotate_right 1
 focus
  intro c1
  simp [hw] at c1
  refine wc_skip (?_)
 rotate_right 1
 focus
  intro c1
  simp at c1
  refine wa_ (wc_region (w_ (a_ (h:=wo_nil (e_ (h:=aft_normal (wc_ret (?_))))))))
 all_goals first
 | refine aft_ret ?_
 | (
  refine aft_normal ?_
  refine wa_ (wa_ (wc_region (w_ (a_ (h:=wo_nil (e_ (h:=aft_normal (wc_block (?_)))))))))
  refine wc_loopI (l_szN l sz ho (0,a - l.length) ⟨by simp,by simp;omega,by simp;omega⟩ _ (by simp [normE,hw])) ?_ ?_
  rotate_right 1
  focus
   intro c2
   skip
  rotate_right 1
  focus
   intro c2
   skip
  all_goals first | refine blk_ret ?_ | refine blk_exit ?_
  all_goals first
  | refine aft_ret ?_
  | (
   refine aft_normal ?_
   refine wa_ (wc_region (w_ (m_ (h:=w_ (a_ (h:=wo_nil (e_ (h:=aft_normal (wc_ret (?_))))))))))
   )
  )
 all_goals (refine fin_ (hr:=(res_tmp rfl res_nil)) (h:=?_);(focus (first | (simp_all;done) | (have h3 := szL_neg (l:=l) (a:=a - l.length) (by omega) (by simpa using c2);simp_all;done) | (simp_all;omega))))
theorem l_toN (l : List Nd) (sz : Nat) (hl : l.length < 2000000) (ho : okN l) : ∀ x : Nat × List Nd,(x.1 ≤ l.length ∧ x.2.length = l.length ∧ x.2.take x.1 = l.take x.1) → ∀ s,normE 1 (some [0,3,4]) s = ⟨[(0,.lst false 0 (nds false sz l)),(3,.ref 1 0 l.length),(4,.int .i64 x.1)],[(1,⟨false,false,7,nds true 1 x.2,0⟩)],2⟩ →
 oc.loop 20 3 s = some (.exit 0,⟨[(3,.ref 1 0 l.length)],[(1,⟨false,false,7,nds true 1 l,0⟩)],2⟩) := by
 refine loop_ind (σ:=Nat × List Nd) (fun x => l.length - x.1) _ (fun x => ⟨[(0,.lst false 0 (nds false sz l)),(3,.ref 1 0 l.length),(4,.int .i64 x.1)],[(1,⟨false,false,7,nds true 1 x.2,0⟩)],2⟩) _ ?_
 rintro ⟨i,r⟩ ⟨hi,hr,ht⟩ ih s hs
 refine loop_s cd20 rfl rfl hs ?_
 refine wa_ (wa_ (wc_region (w_ (m_ (h:=w_ (m_ (h:=w_ (le (h:=w_ (b_ (h:=wo_nil (e_ (h:=aft_normal (?_))))))))))))))
 refine c_ (h1:=?_) (h2:=?_)
 rotate_right 1
 focus
  intro c1
  simp at c1 hi hr ht;have : i = l.length := (by omega);subst this;rw [← hr] at ht;simp at ht;rw [hr] at ht;simp at ht;subst ht
  refine wc_exit (?_)
 rotate_right 1
 focus
  intro c1
  simp at c1;have hw := wrap_succ (i:=i) (by simp at hi;omega);obtain ⟨d,hx,d1,g1⟩ := nds_cut (t:=false) (s:=sz) c1;have hd := ho d (List.mem_of_getElem? hx);obtain ⟨y,hy,_,g2⟩ := nds_cut (t:=true) (s:=1) (l:=r) (i:=i) (by simp at hr;omega);simp at g2
  refine wc_skip (?_)
 all_goals first
 | refine aft_exit ?_
 | (
  refine aft_normal ?_
  refine wa_ (wc_block (wc_region (w_ (m_ (h:=w_ (m_ (h:=w_ (m_ (h:=w_ (m_ (h:=w_ (x_ (h:=w_ (l_ (h:=w_ (ca (hc:=e_toN 0 d (by omega)) (h:=w_ (x_ (h:=w0 (s_ (h:=wo_nil (e_ (h:=blk_normal (aft_normal (wc_region (w_ (m_ (h:=w_ (b_ (h:=w_ (a_ (h:=wo_nil (e_ (h:=?_))))))))))))))))))))))))))))))))))
  )
 all_goals first
 | (refine (ih ((i + 1,r.set i d)) (⟨by simp;omega,by simpa using hr,set_take ht hr hx⟩) ?_ _ ?_).trans ?_;(focus (first | omega | (simp;done) | (simp;omega)));(focus (simp [normE,hw];done));(focus (rfl)))
 | (apply end_leaf (ex:=(Ext.exit 0)) 1 (some [3]);(focus (simp [normE];rfl));(focus (simp)))
theorem e_toNS (l : List Nd) (sz : Nat) (hl : l.length < 2000000) (ho : okN l) : oc.call 20 [.lst false 0 (nds false sz l)] = some (.lst true 7 (nds true 1 l),[]) := by
 refine fun_s rfl cd20 rfl rfl rfl (by simp;rfl) (by simp;rfl) ?_
 refine wa_ (wc_region (w_ (aN (h:=wo_nil (e_ (h:=aft_normal (wa_ (wc_region (w_ (m_ (h:=w_ (le (h:=w_ (mk (h:=w_ (a_ (h:=wo_nil (e_ (h:=aft_normal (wa_ (wa_ (wc_region (w_ (a_ (h:=wo_nil (e_ (h:=aft_normal (wc_block (?_)))))))))))))))))))))))))))))
 refine wc_loop (l_toN l sz hl ho (0,List.replicate l.length ⟨0,0,0,0,0,0,[]⟩) (by simp) _ (by simp [normE,nds_zero])) ?_
 refine blk_exit (aft_normal (wa_ (wc_region (w_ (m_ (h:=w_ (a_ (h:=wo_nil (e_ (h:=aft_normal (wc_ret (?_))))))))))))
 all_goals (refine fin_ (hr:=(res_tmp rfl res_nil)) (h:=?_);(focus (first | (simp_all;done) | (simp_all <;> omega) | (simp_all <;> split <;> simp_all <;> omega))))
theorem l_eqNS (a b : List Nd) (z z' : Nat) (ha : a.length < 2000000) (hab : a.length = b.length) (oa : okN a) (ob : okN b) : ∀ i : Nat,i ≤ a.length → ∀ s,normE 2 (some [0,1,5]) s = ⟨[(0,.lst false 0 (nds false z a)),(1,.lst false 0 (nds false z' b)),(5,.int .i64 i)],[],2⟩ →
 oc.loop 25 4 s = some (if a.drop i = b.drop i then (.exit 0,⟨[],[],2⟩) else (.ret,⟨[(4,.bool false)],[],2⟩)) := by
 refine loop_ind (fun i => a.length - i) _ (fun i => ⟨[(0,.lst false 0 (nds false z a)),(1,.lst false 0 (nds false z' b)),(5,.int .i64 i)],[],2⟩) _ ?_
 intro i hi ih s hs
 refine loop_s cd25 rfl rfl hs ?_
 refine wa_ (wa_ (wc_region (w_ (m_ (h:=w_ (m_ (h:=w_ (le (h:=w_ (b_ (h:=wo_nil (e_ (h:=aft_normal (?_))))))))))))))
 refine c_ (h1:=?_) (h2:=?_)
 rotate_right 1
 focus
  intro c1
  simp at c1;have : i = a.length := (by omega);subst this
  refine wc_exit (?_)
 rotate_right 1
 focus
  intro c1
  simp at c1;have hw := wrap_succ (i:=i) (by omega);obtain ⟨x,hx,d1,g1⟩ := nds_cut (t:=false) (s:=z) c1;obtain ⟨y,hy,d2,g2⟩ := nds_cut (t:=false) (s:=z') (l:=b) (i:=i) (by omega);have h1 := oa x (List.mem_of_getElem? hx);have h2 := ob y (List.mem_of_getElem? hy)
  refine wc_skip (?_)
 all_goals first
 | refine aft_exit ?_
 | (
  refine aft_normal ?_
  refine wa_ (wc_block (wa_ (wc_draw (y_ (m_ (h:=ax_ (h:=y_ (m_ (h:=ax_ (h:=y_ (x_ (h:=ax_ (h:=y_ (l_ (h:=ax_ (h:=y_ (m_ (h:=ax_ (h:=y_ (m_ (h:=ax_ (h:=y_ (x_ (h:=ax_ (h:=y_ (l_ (h:=ax_ (h:=y_ (ca (hc:=e_eqN 0 0 x y (by omega) (by omega)) (h:=ax_ (h:=y_ (u_ (h:=ax_ (h:=wo_nil (ed (h:=aft_normal (?_)))))))))))))))))))))))))))))))))))))
  refine c_ (h1:=?_) (h2:=?_)
  rotate_right 1
  focus
   intro c2
   refine wc_skip (?_)
  rotate_right 1
  focus
   intro c2
   refine wa_ (wc_region (w_ (a_ (h:=wo_nil (e_ (h:=aft_normal (wc_ret (?_))))))))
  all_goals first | refine blk_normal ?_ | refine blk_ret ?_
  all_goals first
  | refine aft_ret ?_
  | (
   refine aft_normal ?_
   refine wc_region (w_ (m_ (h:=w_ (b_ (h:=w_ (a_ (h:=wo_nil (e_ (h:=?_)))))))))
   )
  )
 all_goals first
 | (refine (ih (i + 1) (by omega) ?_ _ ?_).trans ?_;(focus (first | omega | (simp;done) | (simp;omega)));(focus (simp [normE,hw];done));(focus (simp at c2;rw [d1,d2];simp [c2])))
 | (apply end_leaf (ex:=Ext.ret) 2 (some [4]);(focus (simp [normE];rfl));(focus (simp at c2;rw [d1,d2];simp [c2])))
 | (apply end_leaf (ex:=(Ext.exit 0)) 2 (some [4]);(focus (simp [normE];rfl));(focus (rw [if_pos (by simp [hab])])))
theorem e_eqNS (a b : List Nd) (z z' : Nat) (ha : a.length < 2000000) (hb : b.length < 2000000) (oa : okN a) (ob : okN b) : oc.call 25 [.lst false 0 (nds false z a),.lst false 0 (nds false z' b)] = some (.bool (decide (a = b)),[]) := by
 refine fun_s rfl cd25 rfl rfl rfl (by simp;rfl) (by simp;rfl) ?_
 refine wa_ (wc_region (w_ (a_ (h:=wo_nil (e_ (h:=aft_normal (wa_ (wa_ (wc_region (w_ (m_ (h:=w_ (le (h:=w_ (m_ (h:=w_ (le (h:=w_ (bE (h:=wo_nil (e_ (h:=aft_normal (?_)))))))))))))))))))))))
 refine c_ (h1:=?_) (h2:=?_)
 rotate_right 1
 focus
  intro c1
  simp at c1
  refine wc_skip (?_)
 rotate_right 1
 focus
  intro c1
  simp at c1;have hne : a ≠ b := (by rintro rfl;exact c1 rfl)
  refine wa_ (wc_region (w_ (a_ (h:=wo_nil (e_ (h:=aft_normal (wc_ret (?_))))))))
 all_goals first
 | refine aft_ret ?_
 | (
  refine aft_normal ?_
  refine wa_ (wa_ (wc_region (w_ (a_ (h:=wo_nil (e_ (h:=aft_normal (wc_block (?_)))))))))
  refine wc_loopI (l_eqNS a b z z' ha (by omega) oa ob 0 (by omega) _ (by simp [normE])) ?_ ?_
  rotate_right 1
  focus
   intro c2
   skip
  rotate_right 1
  focus
   intro c2
   skip
  all_goals first | refine blk_ret ?_ | refine blk_exit ?_
  all_goals first
  | refine aft_ret ?_
  | (
   refine aft_normal ?_
   refine wa_ (wc_region (w_ (a_ (h:=wo_nil (e_ (h:=aft_normal (wc_ret (?_))))))))
   )
  )
 all_goals (refine fin_ (hr:=(res_tmp rfl res_nil)) (h:=?_);(focus (first | (simp_all;done) | (simp_all <;> omega) | (simp_all <;> split <;> simp_all <;> omega))))
def lz (t : Bool) (n : Nat) : Nat := match t with | true => n | false => 0
@[simp] theorem lz_t (n : Nat) : lz true n = n := rfl
@[simp] theorem lz_f (n : Nat) : lz false n = 0 := rfl
theorem lst_share (t : Bool) (s : Nat) (xs : List V) : (V.lst t s xs).share = .lst false 0 (V.shareL xs) := by cases t <;> rfl
theorem lst_mention (t : Bool) (s : Nat) (xs : List V) : (V.lst t s xs).mention = [] := by cases t <;> rfl
structure Ct where
  pl : Int
  ep : Int
  n : Int
  deriving DecidableEq
theorem Ct.eq_iff {d g : Ct} : d = g ↔ d.pl = g.pl ∧ d.ep = g.ep ∧ d.n = g.n := by
  cases d;cases g;simp
def Ct.v (x : Ct) : V := .agg [.int .i64 x.pl,.int .i64 x.ep,.int .i64 x.n]
def cts (l : List Ct) : List V := l.map (Ct.v)
@[simp] theorem cts_len (l : List Ct) : (cts l).length = l.length := by simp [cts]
@[simp] theorem cts_nil : cts [] = [] := rfl
@[simp] theorem cts_cons (x : Ct) (l : List Ct) : cts (x :: l) = x.v :: cts l := rfl
@[simp] theorem cts_join (l m : List Ct) : cts l ++ cts m = cts (l ++ m) := by simp [cts]
@[simp] theorem cts_snoc (l : List Ct) (x : Ct) : cts l ++ [x.v] = cts (l ++ [x]) := by simp [cts]
@[simp] theorem cts_snoc2 (l : List Ct) (a : Int) (b : Int) (c : Int) : cts l ++ [V.agg [.int .i64 a,.int .i64 b,.int .i64 c]] = cts (l ++ [⟨a,b,c⟩]) := by simp [cts,Ct.v]
@[simp] theorem cts_set2 (l : List Ct) (j : Nat) (a : Int) (b : Int) (c : Int) : (cts l).set j (V.agg [.int .i64 a,.int .i64 b,.int .i64 c]) = cts (l.set j ⟨a,b,c⟩) := by simp [cts,Ct.v,List.map_set]
theorem cts_zero (m : Nat) : List.replicate m (V.agg [.int .i64 0,.int .i64 0,.int .i64 0]) = cts (List.replicate m ⟨0,0,0⟩) := by simp [cts,Ct.v]
@[simp] theorem cts_set (l : List Ct) (i : Nat) (x : Ct) : (cts l).set i (x.v) = cts (l.set i x) := by simp [cts,List.map_set]
theorem cts_get {l : List Ct} {i : Nat} {x : Ct} (h : l[i]? = some x) : (cts l)[i]? = some (x.v) := by simp [cts,h]
theorem cts_at {l : List Ct} {i : Nat} (h : i < l.length) : (cts l)[(i : Int).toNat]? = some (l[i].v) := cts_get (by simp [h])
theorem cts_cut {l : List Ct} {i : Nat} (h : i < l.length) : ∃ x,l[i]? = some x ∧ l.drop i = x :: l.drop (i + 1) ∧ (cts l)[(i : Int).toNat]? = some (x.v) :=
  ⟨l[i],by simp [h],List.drop_eq_getElem_cons h,cts_at h⟩
@[simp] theorem cts_take (n : Nat) (l : List Ct) : (cts l).take n = cts (l.take n) := by simp [cts,List.map_take]
@[simp] theorem cts_drop (n : Nat) (l : List Ct) : (cts l).drop n = cts (l.drop n) := by simp [cts,List.map_drop]
@[simp] theorem Ct.cells_v (x : Ct) : (x.v).cells = 3 := rfl
@[simp] theorem Ct.mention (x : Ct) : V.mention (x.v) = [] := by simp [Ct.v,V.mention,V.mentionL,lst_mention]
@[simp] theorem Ct.share (x : Ct) : (x.v).share = x.v := by simp [Ct.v,V.share,V.shareL,lst_share]
@[simp] theorem cts_shareL (l : List Ct) : V.shareL (cts l) = cts l := by
  induction l with
  | nil => rfl
  | cons x l ih => simp [V.shareL,ih]
@[simp] theorem Ct.snap (x : Ct) (q : St) : V.snap q (x.v) = some (x.v) := by simp [Ct.v,V.snap,V.snapL,mp]
@[simp] theorem Ct.snapA (x : Ct) (q : St) : V.snapA q (x.v) = some (x.v) := Ct.snap x q
@[simp] theorem Ct.snapP (x : Ct) (q : St) : V.snapP q (x.v) = some (x.v) := Ct.snap x q
@[simp] theorem Ct.accM (x : Ct) : V.accM (x.v) = [] := by simp [Ct.v,V.accM,V.accML]
@[simp] theorem Ct.accF (x : Ct) : V.accF (x.v) = [] := by simp [Ct.v,V.accF,V.accFL]
@[simp] theorem Ct.ren (x : Ct) (ρ : Nat → Option Nat) (vr : Nat → Nat) : V.ren ρ vr (x.v) = x.v := by simp [Ct.v,V.ren,V.renL]
@[simp] theorem Ct.bA (i : Nat) (x : Ct) (r : List V) : bindArgs i (x.v :: r) = ((i,x.v) :: (bindArgs (i + 1) r).1,(bindArgs (i + 1) r).2) := rfl
@[simp] theorem Ct.lodF (x : Ct) (o i ver : Nat) (fs : List Nat) : V.lod o i ver fs (x.v) = x.v := by simp [Ct.v,V.lod,V.lodL]
@[simp] theorem Ct.fz (x : Ct) (s : St) : V.fz x.v s = some (x.v,s) := by simp [Ct.v,V.fz,V.fzL,mp]
@[simp] theorem Ct.fzI (x : Ct) (s : St) : V.fzI x.v s = some (x.v,s) := by simp [Ct.v,V.fz,V.fzI,V.fzIL,mp]
@[simp] theorem Ct.scal (x : Ct) : V.scal (x.v) = true := by simp [Ct.v,V.scal,V.scalL]
@[simp] theorem Ct.isTup (x : Ct) : (x.v).isTup = false := rfl
@[simp] theorem Ct.tidyT (x : Ct) : V.tidy (x.v) = true := by simp [Ct.v,V.tidy,V.tidyL]
@[simp] theorem cts_tidyT (l : List Ct) : V.tidyL (cts l) = true := by
  induction l with
  | nil => rfl
  | cons x l ih => simp [V.tidyL,ih]
@[simp] theorem Ct.thaw (x : Ct) (id : Nat) : V.thaw id x.v = (x.v,[],id) := by simp [Ct.v,V.thaw,V.thawL]
structure Et where
  row : List Int
  w : Int
  deriving DecidableEq
theorem Et.eq_iff {d g : Et} : d = g ↔ d.row = g.row ∧ d.w = g.w := by
  cases d;cases g;simp
def Et.v (t : Bool) (x : Et) : V := .agg [.lst t (lz t 1) (ints x.row),.int .i64 x.w]
def ets (t : Bool) (l : List Et) : List V := l.map (Et.v t)
@[simp] theorem ets_len (t : Bool) (l : List Et) : (ets t l).length = l.length := by simp [ets]
@[simp] theorem ets_nil (t : Bool) : ets t [] = [] := rfl
@[simp] theorem ets_cons (t : Bool) (x : Et) (l : List Et) : ets t (x :: l) = x.v t :: ets t l := rfl
@[simp] theorem ets_join (t : Bool) (l m : List Et) : ets t l ++ ets t m = ets t (l ++ m) := by simp [ets]
@[simp] theorem ets_snoc (t : Bool) (l : List Et) (x : Et) : ets t l ++ [x.v t] = ets t (l ++ [x]) := by simp [ets]
@[simp] theorem ets_snocT2 (l : List Et) (a : List Int) (b : Int) : ets true l ++ [V.agg [.lst true 1 (ints a),.int .i64 b]] = ets true (l ++ [⟨a,b⟩]) := by simp [ets,Et.v]
@[simp] theorem ets_setT2 (l : List Et) (j : Nat) (a : List Int) (b : Int) : (ets true l).set j (V.agg [.lst true 1 (ints a),.int .i64 b]) = ets true (l.set j ⟨a,b⟩) := by simp [ets,Et.v,List.map_set]
theorem ets_zero (m : Nat) : List.replicate m (V.agg [.lst true 1 [],.int .i64 0]) = ets true (List.replicate m ⟨[],0⟩) := by simp [ets,Et.v]
@[simp] theorem ets_snocF2 (l : List Et) (a : List Int) (b : Int) : ets false l ++ [V.agg [.lst false 0 (ints a),.int .i64 b]] = ets false (l ++ [⟨a,b⟩]) := by simp [ets,Et.v]
@[simp] theorem ets_setF2 (l : List Et) (j : Nat) (a : List Int) (b : Int) : (ets false l).set j (V.agg [.lst false 0 (ints a),.int .i64 b]) = ets false (l.set j ⟨a,b⟩) := by simp [ets,Et.v,List.map_set]
@[simp] theorem ets_set (t : Bool) (l : List Et) (i : Nat) (x : Et) : (ets t l).set i (x.v t) = ets t (l.set i x) := by simp [ets,List.map_set]
theorem ets_get {t : Bool} {l : List Et} {i : Nat} {x : Et} (h : l[i]? = some x) : (ets t l)[i]? = some (x.v t) := by simp [ets,h]
theorem ets_at {t : Bool} {l : List Et} {i : Nat} (h : i < l.length) : (ets t l)[(i : Int).toNat]? = some (l[i].v t) := ets_get (by simp [h])
theorem ets_cut {t : Bool} {l : List Et} {i : Nat} (h : i < l.length) : ∃ x,l[i]? = some x ∧ l.drop i = x :: l.drop (i + 1) ∧ (ets t l)[(i : Int).toNat]? = some (x.v t) :=
  ⟨l[i],by simp [h],List.drop_eq_getElem_cons h,ets_at h⟩
@[simp] theorem ets_take (t : Bool) (n : Nat) (l : List Et) : (ets t l).take n = ets t (l.take n) := by simp [ets,List.map_take]
@[simp] theorem ets_drop (t : Bool) (n : Nat) (l : List Et) : (ets t l).drop n = ets t (l.drop n) := by simp [ets,List.map_drop]
@[simp] theorem Et.cells_v (t : Bool) (x : Et) : (x.v t).cells = 2 := rfl
@[simp] theorem Et.mention (t : Bool) (x : Et) : V.mention (x.v t) = [] := by simp [Et.v,V.mention,V.mentionL,lst_mention]
@[simp] theorem Et.share (t : Bool) (x : Et) : (x.v t).share = x.v false := by simp [Et.v,V.share,V.shareL,lst_share,ints_share]
@[simp] theorem ets_shareL (t : Bool) (l : List Et) : V.shareL (ets t l) = ets false l := by
  induction l with
  | nil => rfl
  | cons x l ih => simp [V.shareL,ih]
@[simp] theorem Et.snap (t : Bool) (x : Et) (q : St) : V.snap q (x.v t) = some (x.v false) := by simp [Et.v,V.snap,V.snapL,mp,ints_share]
@[simp] theorem Et.snapA (t : Bool) (x : Et) (q : St) : V.snapA q (x.v t) = some (x.v false) := Et.snap t x q
@[simp] theorem Et.snapP (t : Bool) (x : Et) (q : St) : V.snapP q (x.v t) = some (x.v false) := Et.snap t x q
@[simp] theorem Et.accM (t : Bool) (x : Et) : V.accM (x.v t) = [] := by simp [Et.v,V.accM,V.accML]
@[simp] theorem Et.accF (t : Bool) (x : Et) : V.accF (x.v t) = [] := by simp [Et.v,V.accF,V.accFL]
@[simp] theorem Et.ren (t : Bool) (x : Et) (ρ : Nat → Option Nat) (vr : Nat → Nat) : V.ren ρ vr (x.v t) = x.v t := by simp [Et.v,V.ren,V.renL]
@[simp] theorem Et.bA (i : Nat) (t : Bool) (x : Et) (r : List V) : bindArgs i (x.v t :: r) = ((i,x.v t) :: (bindArgs (i + 1) r).1,(bindArgs (i + 1) r).2) := rfl
@[simp] theorem Et.lodF (x : Et) (o i ver : Nat) (fs : List Nat) : V.lod o i ver fs (x.v false) = x.v false := by simp [Et.v,V.lod,V.lodL]
@[simp] theorem Et.fzF (x : Et) (s : St) : V.fz (x.v false) s = some (x.v false,s) := by simp [Et.v,V.fz,V.fzL,mp]
@[simp] theorem Et.fzI (t : Bool) (x : Et) (s : St) : V.fzI (x.v t) s = some (x.v t,s) := by cases t <;> simp [Et.v,V.fz,V.fzI,V.fzIL,mp]
@[simp] theorem Et.scal (t : Bool) (x : Et) : V.scal (x.v t) = false := by simp [Et.v,V.scal,V.scalL]
@[simp] theorem Et.isTup (t : Bool) (x : Et) : (x.v t).isTup = false := rfl
@[simp] theorem Et.tidyT (x : Et) : V.tidy (x.v true) = true := by simp [Et.v,V.tidy,V.tidyL,ints_tidy]
@[simp] theorem ets_tidyT (l : List Et) : V.tidyL (ets true l) = true := by
  induction l with
  | nil => rfl
  | cons x l ih => simp [V.tidyL,ih]
@[simp] theorem Et.thawF (x : Et) (id : Nat) : V.thaw id (x.v false) = (x.v false,[],id) := by simp [Et.v,V.thaw,V.thawL]
@[simp] theorem Et.thawT (x : Et) (id : Nat) : V.thaw id (x.v true) = (.agg [.ref (id) 0 x.row.length,.int .i64 x.w],[(id,⟨false,false,1,ints x.row,0⟩)],id + 1) := by simp [Et.v,V.thaw,V.thawL]
structure Fr where
  kind : Int
  node : Int
  side : Int
  ep : Int
  set : List Et
  news : List Ct
  deriving DecidableEq
theorem Fr.eq_iff {d g : Fr} : d = g ↔ d.kind = g.kind ∧ d.node = g.node ∧ d.side = g.side ∧ d.ep = g.ep ∧ d.set = g.set ∧ d.news = g.news := by
  cases d;cases g;simp
def Fr.v (t : Bool) (x : Fr) : V := .agg [.int .i64 x.kind,.int .i64 x.node,.int .i64 x.side,.int .i64 x.ep,.lst t (lz t 2) (ets t x.set),.lst t (lz t 3) (cts x.news)]
def frs (t : Bool) (l : List Fr) : List V := l.map (Fr.v t)
@[simp] theorem frs_len (t : Bool) (l : List Fr) : (frs t l).length = l.length := by simp [frs]
@[simp] theorem frs_nil (t : Bool) : frs t [] = [] := rfl
@[simp] theorem frs_cons (t : Bool) (x : Fr) (l : List Fr) : frs t (x :: l) = x.v t :: frs t l := rfl
@[simp] theorem frs_join (t : Bool) (l m : List Fr) : frs t l ++ frs t m = frs t (l ++ m) := by simp [frs]
@[simp] theorem frs_snoc (t : Bool) (l : List Fr) (x : Fr) : frs t l ++ [x.v t] = frs t (l ++ [x]) := by simp [frs]
@[simp] theorem frs_snocT2 (l : List Fr) (a : Int) (b : Int) (c : Int) (d : Int) (e : List Et) (f : List Ct) : frs true l ++ [V.agg [.int .i64 a,.int .i64 b,.int .i64 c,.int .i64 d,.lst true 2 (ets true e),.lst true 3 (cts f)]] = frs true (l ++ [⟨a,b,c,d,e,f⟩]) := by simp [frs,Fr.v]
@[simp] theorem frs_setT2 (l : List Fr) (j : Nat) (a : Int) (b : Int) (c : Int) (d : Int) (e : List Et) (f : List Ct) : (frs true l).set j (V.agg [.int .i64 a,.int .i64 b,.int .i64 c,.int .i64 d,.lst true 2 (ets true e),.lst true 3 (cts f)]) = frs true (l.set j ⟨a,b,c,d,e,f⟩) := by simp [frs,Fr.v,List.map_set]
theorem frs_zero (m : Nat) : List.replicate m (V.agg [.int .i64 0,.int .i64 0,.int .i64 0,.int .i64 0,.lst true 2 [],.lst true 3 []]) = frs true (List.replicate m ⟨0,0,0,0,[],[]⟩) := by simp [frs,Fr.v]
@[simp] theorem frs_snocF2 (l : List Fr) (a : Int) (b : Int) (c : Int) (d : Int) (e : List Et) (f : List Ct) : frs false l ++ [V.agg [.int .i64 a,.int .i64 b,.int .i64 c,.int .i64 d,.lst false 0 (ets false e),.lst false 0 (cts f)]] = frs false (l ++ [⟨a,b,c,d,e,f⟩]) := by simp [frs,Fr.v]
@[simp] theorem frs_setF2 (l : List Fr) (j : Nat) (a : Int) (b : Int) (c : Int) (d : Int) (e : List Et) (f : List Ct) : (frs false l).set j (V.agg [.int .i64 a,.int .i64 b,.int .i64 c,.int .i64 d,.lst false 0 (ets false e),.lst false 0 (cts f)]) = frs false (l.set j ⟨a,b,c,d,e,f⟩) := by simp [frs,Fr.v,List.map_set]
@[simp] theorem frs_set (t : Bool) (l : List Fr) (i : Nat) (x : Fr) : (frs t l).set i (x.v t) = frs t (l.set i x) := by simp [frs,List.map_set]
theorem frs_get {t : Bool} {l : List Fr} {i : Nat} {x : Fr} (h : l[i]? = some x) : (frs t l)[i]? = some (x.v t) := by simp [frs,h]
theorem frs_at {t : Bool} {l : List Fr} {i : Nat} (h : i < l.length) : (frs t l)[(i : Int).toNat]? = some (l[i].v t) := frs_get (by simp [h])
theorem frs_cut {t : Bool} {l : List Fr} {i : Nat} (h : i < l.length) : ∃ x,l[i]? = some x ∧ l.drop i = x :: l.drop (i + 1) ∧ (frs t l)[(i : Int).toNat]? = some (x.v t) :=
  ⟨l[i],by simp [h],List.drop_eq_getElem_cons h,frs_at h⟩
@[simp] theorem frs_take (t : Bool) (n : Nat) (l : List Fr) : (frs t l).take n = frs t (l.take n) := by simp [frs,List.map_take]
@[simp] theorem frs_drop (t : Bool) (n : Nat) (l : List Fr) : (frs t l).drop n = frs t (l.drop n) := by simp [frs,List.map_drop]
@[simp] theorem Fr.cells_v (t : Bool) (x : Fr) : (x.v t).cells = 6 := rfl
@[simp] theorem Fr.mention (t : Bool) (x : Fr) : V.mention (x.v t) = [] := by simp [Fr.v,V.mention,V.mentionL,lst_mention]
@[simp] theorem Fr.share (t : Bool) (x : Fr) : (x.v t).share = x.v false := by simp [Fr.v,V.share,V.shareL,lst_share,ets_shareL,cts_shareL]
@[simp] theorem frs_shareL (t : Bool) (l : List Fr) : V.shareL (frs t l) = frs false l := by
  induction l with
  | nil => rfl
  | cons x l ih => simp [V.shareL,ih]
@[simp] theorem Fr.snap (t : Bool) (x : Fr) (q : St) : V.snap q (x.v t) = some (x.v false) := by simp [Fr.v,V.snap,V.snapL,mp,ets_shareL,cts_shareL]
@[simp] theorem Fr.snapA (t : Bool) (x : Fr) (q : St) : V.snapA q (x.v t) = some (x.v false) := Fr.snap t x q
@[simp] theorem Fr.snapP (t : Bool) (x : Fr) (q : St) : V.snapP q (x.v t) = some (x.v false) := Fr.snap t x q
@[simp] theorem Fr.accM (t : Bool) (x : Fr) : V.accM (x.v t) = [] := by simp [Fr.v,V.accM,V.accML]
@[simp] theorem Fr.accF (t : Bool) (x : Fr) : V.accF (x.v t) = [] := by simp [Fr.v,V.accF,V.accFL]
@[simp] theorem Fr.ren (t : Bool) (x : Fr) (ρ : Nat → Option Nat) (vr : Nat → Nat) : V.ren ρ vr (x.v t) = x.v t := by simp [Fr.v,V.ren,V.renL]
@[simp] theorem Fr.bA (i : Nat) (t : Bool) (x : Fr) (r : List V) : bindArgs i (x.v t :: r) = ((i,x.v t) :: (bindArgs (i + 1) r).1,(bindArgs (i + 1) r).2) := rfl
@[simp] theorem Fr.lodF (x : Fr) (o i ver : Nat) (fs : List Nat) : V.lod o i ver fs (x.v false) = x.v false := by simp [Fr.v,V.lod,V.lodL]
@[simp] theorem Fr.fzF (x : Fr) (s : St) : V.fz (x.v false) s = some (x.v false,s) := by simp [Fr.v,V.fz,V.fzL,mp]
@[simp] theorem Fr.fzI (t : Bool) (x : Fr) (s : St) : V.fzI (x.v t) s = some (x.v t,s) := by cases t <;> simp [Fr.v,V.fz,V.fzI,V.fzIL,mp]
@[simp] theorem Fr.scal (t : Bool) (x : Fr) : V.scal (x.v t) = false := by simp [Fr.v,V.scal,V.scalL]
@[simp] theorem Fr.isTup (t : Bool) (x : Fr) : (x.v t).isTup = false := rfl
@[simp] theorem Fr.tidyT (x : Fr) : V.tidy (x.v true) = true := by simp [Fr.v,V.tidy,V.tidyL,ets_tidyT,cts_tidyT]
@[simp] theorem frs_tidyT (l : List Fr) : V.tidyL (frs true l) = true := by
  induction l with
  | nil => rfl
  | cons x l ih => simp [V.tidyL,ih]
@[simp] theorem Fr.thawF (x : Fr) (id : Nat) : V.thaw id (x.v false) = (x.v false,[],id) := by simp [Fr.v,V.thaw,V.thawL]
@[simp] theorem Fr.thawT (x : Fr) (id : Nat) : V.thaw id (x.v true) = (.agg [.int .i64 x.kind,.int .i64 x.node,.int .i64 x.side,.int .i64 x.ep,.ref (id) 0 x.set.length,.ref (id + 1) 0 x.news.length],[(id,⟨false,false,2,ets true x.set,0⟩),(id + 1,⟨false,false,3,cts x.news,0⟩)],id + 1 + 1) := by simp [Fr.v,V.thaw,V.thawL]
structure Bt where
  side : Int
  ep : Int
  set : List Et
  deriving DecidableEq
theorem Bt.eq_iff {d g : Bt} : d = g ↔ d.side = g.side ∧ d.ep = g.ep ∧ d.set = g.set := by
  cases d;cases g;simp
def Bt.v (t : Bool) (x : Bt) : V := .agg [.int .i64 x.side,.int .i64 x.ep,.lst t (lz t 2) (ets t x.set)]
def bts (t : Bool) (l : List Bt) : List V := l.map (Bt.v t)
@[simp] theorem bts_len (t : Bool) (l : List Bt) : (bts t l).length = l.length := by simp [bts]
@[simp] theorem bts_nil (t : Bool) : bts t [] = [] := rfl
@[simp] theorem bts_cons (t : Bool) (x : Bt) (l : List Bt) : bts t (x :: l) = x.v t :: bts t l := rfl
@[simp] theorem bts_join (t : Bool) (l m : List Bt) : bts t l ++ bts t m = bts t (l ++ m) := by simp [bts]
@[simp] theorem bts_snoc (t : Bool) (l : List Bt) (x : Bt) : bts t l ++ [x.v t] = bts t (l ++ [x]) := by simp [bts]
@[simp] theorem bts_snocT2 (l : List Bt) (a : Int) (b : Int) (c : List Et) : bts true l ++ [V.agg [.int .i64 a,.int .i64 b,.lst true 2 (ets true c)]] = bts true (l ++ [⟨a,b,c⟩]) := by simp [bts,Bt.v]
@[simp] theorem bts_setT2 (l : List Bt) (j : Nat) (a : Int) (b : Int) (c : List Et) : (bts true l).set j (V.agg [.int .i64 a,.int .i64 b,.lst true 2 (ets true c)]) = bts true (l.set j ⟨a,b,c⟩) := by simp [bts,Bt.v,List.map_set]
theorem bts_zero (m : Nat) : List.replicate m (V.agg [.int .i64 0,.int .i64 0,.lst true 2 []]) = bts true (List.replicate m ⟨0,0,[]⟩) := by simp [bts,Bt.v]
@[simp] theorem bts_snocF2 (l : List Bt) (a : Int) (b : Int) (c : List Et) : bts false l ++ [V.agg [.int .i64 a,.int .i64 b,.lst false 0 (ets false c)]] = bts false (l ++ [⟨a,b,c⟩]) := by simp [bts,Bt.v]
@[simp] theorem bts_setF2 (l : List Bt) (j : Nat) (a : Int) (b : Int) (c : List Et) : (bts false l).set j (V.agg [.int .i64 a,.int .i64 b,.lst false 0 (ets false c)]) = bts false (l.set j ⟨a,b,c⟩) := by simp [bts,Bt.v,List.map_set]
@[simp] theorem bts_set (t : Bool) (l : List Bt) (i : Nat) (x : Bt) : (bts t l).set i (x.v t) = bts t (l.set i x) := by simp [bts,List.map_set]
theorem bts_get {t : Bool} {l : List Bt} {i : Nat} {x : Bt} (h : l[i]? = some x) : (bts t l)[i]? = some (x.v t) := by simp [bts,h]
theorem bts_at {t : Bool} {l : List Bt} {i : Nat} (h : i < l.length) : (bts t l)[(i : Int).toNat]? = some (l[i].v t) := bts_get (by simp [h])
theorem bts_cut {t : Bool} {l : List Bt} {i : Nat} (h : i < l.length) : ∃ x,l[i]? = some x ∧ l.drop i = x :: l.drop (i + 1) ∧ (bts t l)[(i : Int).toNat]? = some (x.v t) :=
  ⟨l[i],by simp [h],List.drop_eq_getElem_cons h,bts_at h⟩
@[simp] theorem bts_take (t : Bool) (n : Nat) (l : List Bt) : (bts t l).take n = bts t (l.take n) := by simp [bts,List.map_take]
@[simp] theorem bts_drop (t : Bool) (n : Nat) (l : List Bt) : (bts t l).drop n = bts t (l.drop n) := by simp [bts,List.map_drop]
@[simp] theorem Bt.cells_v (t : Bool) (x : Bt) : (x.v t).cells = 3 := rfl
@[simp] theorem Bt.mention (t : Bool) (x : Bt) : V.mention (x.v t) = [] := by simp [Bt.v,V.mention,V.mentionL,lst_mention]
@[simp] theorem Bt.share (t : Bool) (x : Bt) : (x.v t).share = x.v false := by simp [Bt.v,V.share,V.shareL,lst_share,ets_shareL]
@[simp] theorem bts_shareL (t : Bool) (l : List Bt) : V.shareL (bts t l) = bts false l := by
  induction l with
  | nil => rfl
  | cons x l ih => simp [V.shareL,ih]
@[simp] theorem Bt.snap (t : Bool) (x : Bt) (q : St) : V.snap q (x.v t) = some (x.v false) := by simp [Bt.v,V.snap,V.snapL,mp,ets_shareL]
@[simp] theorem Bt.snapA (t : Bool) (x : Bt) (q : St) : V.snapA q (x.v t) = some (x.v false) := Bt.snap t x q
@[simp] theorem Bt.snapP (t : Bool) (x : Bt) (q : St) : V.snapP q (x.v t) = some (x.v false) := Bt.snap t x q
@[simp] theorem Bt.accM (t : Bool) (x : Bt) : V.accM (x.v t) = [] := by simp [Bt.v,V.accM,V.accML]
@[simp] theorem Bt.accF (t : Bool) (x : Bt) : V.accF (x.v t) = [] := by simp [Bt.v,V.accF,V.accFL]
@[simp] theorem Bt.ren (t : Bool) (x : Bt) (ρ : Nat → Option Nat) (vr : Nat → Nat) : V.ren ρ vr (x.v t) = x.v t := by simp [Bt.v,V.ren,V.renL]
@[simp] theorem Bt.bA (i : Nat) (t : Bool) (x : Bt) (r : List V) : bindArgs i (x.v t :: r) = ((i,x.v t) :: (bindArgs (i + 1) r).1,(bindArgs (i + 1) r).2) := rfl
@[simp] theorem Bt.lodF (x : Bt) (o i ver : Nat) (fs : List Nat) : V.lod o i ver fs (x.v false) = x.v false := by simp [Bt.v,V.lod,V.lodL]
@[simp] theorem Bt.fzF (x : Bt) (s : St) : V.fz (x.v false) s = some (x.v false,s) := by simp [Bt.v,V.fz,V.fzL,mp]
@[simp] theorem Bt.fzI (t : Bool) (x : Bt) (s : St) : V.fzI (x.v t) s = some (x.v t,s) := by cases t <;> simp [Bt.v,V.fz,V.fzI,V.fzIL,mp]
@[simp] theorem Bt.scal (t : Bool) (x : Bt) : V.scal (x.v t) = false := by simp [Bt.v,V.scal,V.scalL]
@[simp] theorem Bt.isTup (t : Bool) (x : Bt) : (x.v t).isTup = false := rfl
@[simp] theorem Bt.tidyT (x : Bt) : V.tidy (x.v true) = true := by simp [Bt.v,V.tidy,V.tidyL,ets_tidyT]
@[simp] theorem bts_tidyT (l : List Bt) : V.tidyL (bts true l) = true := by
  induction l with
  | nil => rfl
  | cons x l ih => simp [V.tidyL,ih]
@[simp] theorem Bt.thawF (x : Bt) (id : Nat) : V.thaw id (x.v false) = (x.v false,[],id) := by simp [Bt.v,V.thaw,V.thawL]
@[simp] theorem Bt.thawT (x : Bt) (id : Nat) : V.thaw id (x.v true) = (.agg [.int .i64 x.side,.int .i64 x.ep,.ref (id) 0 x.set.length],[(id,⟨false,false,2,ets true x.set,0⟩)],id + 1) := by simp [Bt.v,V.thaw,V.thawL]
structure Hd where
  oldA : List Et
  oldB : List Et
  waits : List Bt
  told : Int
  deriving DecidableEq
theorem Hd.eq_iff {d g : Hd} : d = g ↔ d.oldA = g.oldA ∧ d.oldB = g.oldB ∧ d.waits = g.waits ∧ d.told = g.told := by
  cases d;cases g;simp
def Hd.v (t : Bool) (x : Hd) : V := .agg [.lst t (lz t 2) (ets t x.oldA),.lst t (lz t 2) (ets t x.oldB),.lst t (lz t 3) (bts t x.waits),.int .i64 x.told]
def hds (t : Bool) (l : List Hd) : List V := l.map (Hd.v t)
@[simp] theorem hds_len (t : Bool) (l : List Hd) : (hds t l).length = l.length := by simp [hds]
@[simp] theorem hds_nil (t : Bool) : hds t [] = [] := rfl
@[simp] theorem hds_cons (t : Bool) (x : Hd) (l : List Hd) : hds t (x :: l) = x.v t :: hds t l := rfl
@[simp] theorem hds_join (t : Bool) (l m : List Hd) : hds t l ++ hds t m = hds t (l ++ m) := by simp [hds]
@[simp] theorem hds_snoc (t : Bool) (l : List Hd) (x : Hd) : hds t l ++ [x.v t] = hds t (l ++ [x]) := by simp [hds]
@[simp] theorem hds_snocT2 (l : List Hd) (a : List Et) (b : List Et) (c : List Bt) (d : Int) : hds true l ++ [V.agg [.lst true 2 (ets true a),.lst true 2 (ets true b),.lst true 3 (bts true c),.int .i64 d]] = hds true (l ++ [⟨a,b,c,d⟩]) := by simp [hds,Hd.v]
@[simp] theorem hds_setT2 (l : List Hd) (j : Nat) (a : List Et) (b : List Et) (c : List Bt) (d : Int) : (hds true l).set j (V.agg [.lst true 2 (ets true a),.lst true 2 (ets true b),.lst true 3 (bts true c),.int .i64 d]) = hds true (l.set j ⟨a,b,c,d⟩) := by simp [hds,Hd.v,List.map_set]
theorem hds_zero (m : Nat) : List.replicate m (V.agg [.lst true 2 [],.lst true 2 [],.lst true 3 [],.int .i64 0]) = hds true (List.replicate m ⟨[],[],[],0⟩) := by simp [hds,Hd.v]
@[simp] theorem hds_snocF2 (l : List Hd) (a : List Et) (b : List Et) (c : List Bt) (d : Int) : hds false l ++ [V.agg [.lst false 0 (ets false a),.lst false 0 (ets false b),.lst false 0 (bts false c),.int .i64 d]] = hds false (l ++ [⟨a,b,c,d⟩]) := by simp [hds,Hd.v]
@[simp] theorem hds_setF2 (l : List Hd) (j : Nat) (a : List Et) (b : List Et) (c : List Bt) (d : Int) : (hds false l).set j (V.agg [.lst false 0 (ets false a),.lst false 0 (ets false b),.lst false 0 (bts false c),.int .i64 d]) = hds false (l.set j ⟨a,b,c,d⟩) := by simp [hds,Hd.v,List.map_set]
@[simp] theorem hds_set (t : Bool) (l : List Hd) (i : Nat) (x : Hd) : (hds t l).set i (x.v t) = hds t (l.set i x) := by simp [hds,List.map_set]
theorem hds_get {t : Bool} {l : List Hd} {i : Nat} {x : Hd} (h : l[i]? = some x) : (hds t l)[i]? = some (x.v t) := by simp [hds,h]
theorem hds_at {t : Bool} {l : List Hd} {i : Nat} (h : i < l.length) : (hds t l)[(i : Int).toNat]? = some (l[i].v t) := hds_get (by simp [h])
theorem hds_cut {t : Bool} {l : List Hd} {i : Nat} (h : i < l.length) : ∃ x,l[i]? = some x ∧ l.drop i = x :: l.drop (i + 1) ∧ (hds t l)[(i : Int).toNat]? = some (x.v t) :=
  ⟨l[i],by simp [h],List.drop_eq_getElem_cons h,hds_at h⟩
@[simp] theorem hds_take (t : Bool) (n : Nat) (l : List Hd) : (hds t l).take n = hds t (l.take n) := by simp [hds,List.map_take]
@[simp] theorem hds_drop (t : Bool) (n : Nat) (l : List Hd) : (hds t l).drop n = hds t (l.drop n) := by simp [hds,List.map_drop]
@[simp] theorem Hd.cells_v (t : Bool) (x : Hd) : (x.v t).cells = 4 := rfl
@[simp] theorem Hd.mention (t : Bool) (x : Hd) : V.mention (x.v t) = [] := by simp [Hd.v,V.mention,V.mentionL,lst_mention]
@[simp] theorem Hd.share (t : Bool) (x : Hd) : (x.v t).share = x.v false := by simp [Hd.v,V.share,V.shareL,lst_share,ets_shareL,ets_shareL,bts_shareL]
@[simp] theorem hds_shareL (t : Bool) (l : List Hd) : V.shareL (hds t l) = hds false l := by
  induction l with
  | nil => rfl
  | cons x l ih => simp [V.shareL,ih]
@[simp] theorem Hd.snap (t : Bool) (x : Hd) (q : St) : V.snap q (x.v t) = some (x.v false) := by simp [Hd.v,V.snap,V.snapL,mp,ets_shareL,ets_shareL,bts_shareL]
@[simp] theorem Hd.snapA (t : Bool) (x : Hd) (q : St) : V.snapA q (x.v t) = some (x.v false) := Hd.snap t x q
@[simp] theorem Hd.snapP (t : Bool) (x : Hd) (q : St) : V.snapP q (x.v t) = some (x.v false) := Hd.snap t x q
@[simp] theorem Hd.accM (t : Bool) (x : Hd) : V.accM (x.v t) = [] := by simp [Hd.v,V.accM,V.accML]
@[simp] theorem Hd.accF (t : Bool) (x : Hd) : V.accF (x.v t) = [] := by simp [Hd.v,V.accF,V.accFL]
@[simp] theorem Hd.ren (t : Bool) (x : Hd) (ρ : Nat → Option Nat) (vr : Nat → Nat) : V.ren ρ vr (x.v t) = x.v t := by simp [Hd.v,V.ren,V.renL]
@[simp] theorem Hd.bA (i : Nat) (t : Bool) (x : Hd) (r : List V) : bindArgs i (x.v t :: r) = ((i,x.v t) :: (bindArgs (i + 1) r).1,(bindArgs (i + 1) r).2) := rfl
@[simp] theorem Hd.lodF (x : Hd) (o i ver : Nat) (fs : List Nat) : V.lod o i ver fs (x.v false) = x.v false := by simp [Hd.v,V.lod,V.lodL]
@[simp] theorem Hd.fzF (x : Hd) (s : St) : V.fz (x.v false) s = some (x.v false,s) := by simp [Hd.v,V.fz,V.fzL,mp]
@[simp] theorem Hd.fzI (t : Bool) (x : Hd) (s : St) : V.fzI (x.v t) s = some (x.v t,s) := by cases t <;> simp [Hd.v,V.fz,V.fzI,V.fzIL,mp]
@[simp] theorem Hd.scal (t : Bool) (x : Hd) : V.scal (x.v t) = false := by simp [Hd.v,V.scal,V.scalL]
@[simp] theorem Hd.isTup (t : Bool) (x : Hd) : (x.v t).isTup = false := rfl
@[simp] theorem Hd.tidyT (x : Hd) : V.tidy (x.v true) = true := by simp [Hd.v,V.tidy,V.tidyL,ets_tidyT,ets_tidyT,bts_tidyT]
@[simp] theorem hds_tidyT (l : List Hd) : V.tidyL (hds true l) = true := by
  induction l with
  | nil => rfl
  | cons x l ih => simp [V.tidyL,ih]
@[simp] theorem Hd.thawF (x : Hd) (id : Nat) : V.thaw id (x.v false) = (x.v false,[],id) := by simp [Hd.v,V.thaw,V.thawL]
@[simp] theorem Hd.thawT (x : Hd) (id : Nat) : V.thaw id (x.v true) = (.agg [.ref (id) 0 x.oldA.length,.ref (id + 1) 0 x.oldB.length,.ref (id + 1 + 1) 0 x.waits.length,.int .i64 x.told],[(id,⟨false,false,2,ets true x.oldA,0⟩),(id + 1,⟨false,false,2,ets true x.oldB,0⟩),(id + 1 + 1,⟨false,false,3,bts true x.waits,0⟩)],id + 1 + 1 + 1) := by simp [Hd.v,V.thaw,V.thawL]
structure Rl where
  node : Int
  ep : Int
  set : List Et
  deriving DecidableEq
theorem Rl.eq_iff {d g : Rl} : d = g ↔ d.node = g.node ∧ d.ep = g.ep ∧ d.set = g.set := by
  cases d;cases g;simp
def Rl.v (t : Bool) (x : Rl) : V := .agg [.int .i64 x.node,.int .i64 x.ep,.lst t (lz t 2) (ets t x.set)]
def rls (t : Bool) (l : List Rl) : List V := l.map (Rl.v t)
@[simp] theorem rls_len (t : Bool) (l : List Rl) : (rls t l).length = l.length := by simp [rls]
@[simp] theorem rls_nil (t : Bool) : rls t [] = [] := rfl
@[simp] theorem rls_cons (t : Bool) (x : Rl) (l : List Rl) : rls t (x :: l) = x.v t :: rls t l := rfl
@[simp] theorem rls_join (t : Bool) (l m : List Rl) : rls t l ++ rls t m = rls t (l ++ m) := by simp [rls]
@[simp] theorem rls_snoc (t : Bool) (l : List Rl) (x : Rl) : rls t l ++ [x.v t] = rls t (l ++ [x]) := by simp [rls]
@[simp] theorem rls_snocT2 (l : List Rl) (a : Int) (b : Int) (c : List Et) : rls true l ++ [V.agg [.int .i64 a,.int .i64 b,.lst true 2 (ets true c)]] = rls true (l ++ [⟨a,b,c⟩]) := by simp [rls,Rl.v]
@[simp] theorem rls_setT2 (l : List Rl) (j : Nat) (a : Int) (b : Int) (c : List Et) : (rls true l).set j (V.agg [.int .i64 a,.int .i64 b,.lst true 2 (ets true c)]) = rls true (l.set j ⟨a,b,c⟩) := by simp [rls,Rl.v,List.map_set]
theorem rls_zero (m : Nat) : List.replicate m (V.agg [.int .i64 0,.int .i64 0,.lst true 2 []]) = rls true (List.replicate m ⟨0,0,[]⟩) := by simp [rls,Rl.v]
@[simp] theorem rls_snocF2 (l : List Rl) (a : Int) (b : Int) (c : List Et) : rls false l ++ [V.agg [.int .i64 a,.int .i64 b,.lst false 0 (ets false c)]] = rls false (l ++ [⟨a,b,c⟩]) := by simp [rls,Rl.v]
@[simp] theorem rls_setF2 (l : List Rl) (j : Nat) (a : Int) (b : Int) (c : List Et) : (rls false l).set j (V.agg [.int .i64 a,.int .i64 b,.lst false 0 (ets false c)]) = rls false (l.set j ⟨a,b,c⟩) := by simp [rls,Rl.v,List.map_set]
@[simp] theorem rls_set (t : Bool) (l : List Rl) (i : Nat) (x : Rl) : (rls t l).set i (x.v t) = rls t (l.set i x) := by simp [rls,List.map_set]
theorem rls_get {t : Bool} {l : List Rl} {i : Nat} {x : Rl} (h : l[i]? = some x) : (rls t l)[i]? = some (x.v t) := by simp [rls,h]
theorem rls_at {t : Bool} {l : List Rl} {i : Nat} (h : i < l.length) : (rls t l)[(i : Int).toNat]? = some (l[i].v t) := rls_get (by simp [h])
theorem rls_cut {t : Bool} {l : List Rl} {i : Nat} (h : i < l.length) : ∃ x,l[i]? = some x ∧ l.drop i = x :: l.drop (i + 1) ∧ (rls t l)[(i : Int).toNat]? = some (x.v t) :=
  ⟨l[i],by simp [h],List.drop_eq_getElem_cons h,rls_at h⟩
@[simp] theorem rls_take (t : Bool) (n : Nat) (l : List Rl) : (rls t l).take n = rls t (l.take n) := by simp [rls,List.map_take]
@[simp] theorem rls_drop (t : Bool) (n : Nat) (l : List Rl) : (rls t l).drop n = rls t (l.drop n) := by simp [rls,List.map_drop]
@[simp] theorem Rl.cells_v (t : Bool) (x : Rl) : (x.v t).cells = 3 := rfl
@[simp] theorem Rl.mention (t : Bool) (x : Rl) : V.mention (x.v t) = [] := by simp [Rl.v,V.mention,V.mentionL,lst_mention]
@[simp] theorem Rl.share (t : Bool) (x : Rl) : (x.v t).share = x.v false := by simp [Rl.v,V.share,V.shareL,lst_share,ets_shareL]
@[simp] theorem rls_shareL (t : Bool) (l : List Rl) : V.shareL (rls t l) = rls false l := by
  induction l with
  | nil => rfl
  | cons x l ih => simp [V.shareL,ih]
@[simp] theorem Rl.snap (t : Bool) (x : Rl) (q : St) : V.snap q (x.v t) = some (x.v false) := by simp [Rl.v,V.snap,V.snapL,mp,ets_shareL]
@[simp] theorem Rl.snapA (t : Bool) (x : Rl) (q : St) : V.snapA q (x.v t) = some (x.v false) := Rl.snap t x q
@[simp] theorem Rl.snapP (t : Bool) (x : Rl) (q : St) : V.snapP q (x.v t) = some (x.v false) := Rl.snap t x q
@[simp] theorem Rl.accM (t : Bool) (x : Rl) : V.accM (x.v t) = [] := by simp [Rl.v,V.accM,V.accML]
@[simp] theorem Rl.accF (t : Bool) (x : Rl) : V.accF (x.v t) = [] := by simp [Rl.v,V.accF,V.accFL]
@[simp] theorem Rl.ren (t : Bool) (x : Rl) (ρ : Nat → Option Nat) (vr : Nat → Nat) : V.ren ρ vr (x.v t) = x.v t := by simp [Rl.v,V.ren,V.renL]
@[simp] theorem Rl.bA (i : Nat) (t : Bool) (x : Rl) (r : List V) : bindArgs i (x.v t :: r) = ((i,x.v t) :: (bindArgs (i + 1) r).1,(bindArgs (i + 1) r).2) := rfl
@[simp] theorem Rl.lodF (x : Rl) (o i ver : Nat) (fs : List Nat) : V.lod o i ver fs (x.v false) = x.v false := by simp [Rl.v,V.lod,V.lodL]
@[simp] theorem Rl.fzF (x : Rl) (s : St) : V.fz (x.v false) s = some (x.v false,s) := by simp [Rl.v,V.fz,V.fzL,mp]
@[simp] theorem Rl.fzI (t : Bool) (x : Rl) (s : St) : V.fzI (x.v t) s = some (x.v t,s) := by cases t <;> simp [Rl.v,V.fz,V.fzI,V.fzIL,mp]
@[simp] theorem Rl.scal (t : Bool) (x : Rl) : V.scal (x.v t) = false := by simp [Rl.v,V.scal,V.scalL]
@[simp] theorem Rl.isTup (t : Bool) (x : Rl) : (x.v t).isTup = false := rfl
@[simp] theorem Rl.tidyT (x : Rl) : V.tidy (x.v true) = true := by simp [Rl.v,V.tidy,V.tidyL,ets_tidyT]
@[simp] theorem rls_tidyT (l : List Rl) : V.tidyL (rls true l) = true := by
  induction l with
  | nil => rfl
  | cons x l ih => simp [V.tidyL,ih]
@[simp] theorem Rl.thawF (x : Rl) (id : Nat) : V.thaw id (x.v false) = (x.v false,[],id) := by simp [Rl.v,V.thaw,V.thawL]
@[simp] theorem Rl.thawT (x : Rl) (id : Nat) : V.thaw id (x.v true) = (.agg [.int .i64 x.node,.int .i64 x.ep,.ref (id) 0 x.set.length],[(id,⟨false,false,2,ets true x.set,0⟩)],id + 1) := by simp [Rl.v,V.thaw,V.thawL]
structure Wk where
  inbox : List Fr
  counts : List Ct
  nodes : List Hd
  ep : Int
  top : Int
  outs : List Rl
  bad : Bool
  deriving DecidableEq
theorem Wk.eq_iff {d g : Wk} : d = g ↔ d.inbox = g.inbox ∧ d.counts = g.counts ∧ d.nodes = g.nodes ∧ d.ep = g.ep ∧ d.top = g.top ∧ d.outs = g.outs ∧ d.bad = g.bad := by
  cases d;cases g;simp
def Wk.v (t : Bool) (x : Wk) : V := .agg [.lst t (lz t 6) (frs t x.inbox),.lst t (lz t 3) (cts x.counts),.lst t (lz t 4) (hds t x.nodes),.int .i64 x.ep,.int .i64 x.top,.lst t (lz t 3) (rls t x.outs),.bool x.bad]
def wks (t : Bool) (l : List Wk) : List V := l.map (Wk.v t)
@[simp] theorem wks_len (t : Bool) (l : List Wk) : (wks t l).length = l.length := by simp [wks]
@[simp] theorem wks_nil (t : Bool) : wks t [] = [] := rfl
@[simp] theorem wks_cons (t : Bool) (x : Wk) (l : List Wk) : wks t (x :: l) = x.v t :: wks t l := rfl
@[simp] theorem wks_join (t : Bool) (l m : List Wk) : wks t l ++ wks t m = wks t (l ++ m) := by simp [wks]
@[simp] theorem wks_snoc (t : Bool) (l : List Wk) (x : Wk) : wks t l ++ [x.v t] = wks t (l ++ [x]) := by simp [wks]
@[simp] theorem wks_snocT2 (l : List Wk) (a : List Fr) (b : List Ct) (c : List Hd) (d : Int) (e : Int) (f : List Rl) (g : Bool) : wks true l ++ [V.agg [.lst true 6 (frs true a),.lst true 3 (cts b),.lst true 4 (hds true c),.int .i64 d,.int .i64 e,.lst true 3 (rls true f),.bool g]] = wks true (l ++ [⟨a,b,c,d,e,f,g⟩]) := by simp [wks,Wk.v]
@[simp] theorem wks_setT2 (l : List Wk) (j : Nat) (a : List Fr) (b : List Ct) (c : List Hd) (d : Int) (e : Int) (f : List Rl) (g : Bool) : (wks true l).set j (V.agg [.lst true 6 (frs true a),.lst true 3 (cts b),.lst true 4 (hds true c),.int .i64 d,.int .i64 e,.lst true 3 (rls true f),.bool g]) = wks true (l.set j ⟨a,b,c,d,e,f,g⟩) := by simp [wks,Wk.v,List.map_set]
theorem wks_zero (m : Nat) : List.replicate m (V.agg [.lst true 6 [],.lst true 3 [],.lst true 4 [],.int .i64 0,.int .i64 0,.lst true 3 [],.bool false]) = wks true (List.replicate m ⟨[],[],[],0,0,[],false⟩) := by simp [wks,Wk.v]
@[simp] theorem wks_snocF2 (l : List Wk) (a : List Fr) (b : List Ct) (c : List Hd) (d : Int) (e : Int) (f : List Rl) (g : Bool) : wks false l ++ [V.agg [.lst false 0 (frs false a),.lst false 0 (cts b),.lst false 0 (hds false c),.int .i64 d,.int .i64 e,.lst false 0 (rls false f),.bool g]] = wks false (l ++ [⟨a,b,c,d,e,f,g⟩]) := by simp [wks,Wk.v]
@[simp] theorem wks_setF2 (l : List Wk) (j : Nat) (a : List Fr) (b : List Ct) (c : List Hd) (d : Int) (e : Int) (f : List Rl) (g : Bool) : (wks false l).set j (V.agg [.lst false 0 (frs false a),.lst false 0 (cts b),.lst false 0 (hds false c),.int .i64 d,.int .i64 e,.lst false 0 (rls false f),.bool g]) = wks false (l.set j ⟨a,b,c,d,e,f,g⟩) := by simp [wks,Wk.v,List.map_set]
@[simp] theorem wks_set (t : Bool) (l : List Wk) (i : Nat) (x : Wk) : (wks t l).set i (x.v t) = wks t (l.set i x) := by simp [wks,List.map_set]
theorem wks_get {t : Bool} {l : List Wk} {i : Nat} {x : Wk} (h : l[i]? = some x) : (wks t l)[i]? = some (x.v t) := by simp [wks,h]
theorem wks_at {t : Bool} {l : List Wk} {i : Nat} (h : i < l.length) : (wks t l)[(i : Int).toNat]? = some (l[i].v t) := wks_get (by simp [h])
theorem wks_cut {t : Bool} {l : List Wk} {i : Nat} (h : i < l.length) : ∃ x,l[i]? = some x ∧ l.drop i = x :: l.drop (i + 1) ∧ (wks t l)[(i : Int).toNat]? = some (x.v t) :=
  ⟨l[i],by simp [h],List.drop_eq_getElem_cons h,wks_at h⟩
@[simp] theorem wks_take (t : Bool) (n : Nat) (l : List Wk) : (wks t l).take n = wks t (l.take n) := by simp [wks,List.map_take]
@[simp] theorem wks_drop (t : Bool) (n : Nat) (l : List Wk) : (wks t l).drop n = wks t (l.drop n) := by simp [wks,List.map_drop]
@[simp] theorem Wk.cells_v (t : Bool) (x : Wk) : (x.v t).cells = 7 := rfl
@[simp] theorem Wk.mention (t : Bool) (x : Wk) : V.mention (x.v t) = [] := by simp [Wk.v,V.mention,V.mentionL,lst_mention]
@[simp] theorem Wk.share (t : Bool) (x : Wk) : (x.v t).share = x.v false := by simp [Wk.v,V.share,V.shareL,lst_share,frs_shareL,cts_shareL,hds_shareL,rls_shareL]
@[simp] theorem wks_shareL (t : Bool) (l : List Wk) : V.shareL (wks t l) = wks false l := by
  induction l with
  | nil => rfl
  | cons x l ih => simp [V.shareL,ih]
@[simp] theorem Wk.snap (t : Bool) (x : Wk) (q : St) : V.snap q (x.v t) = some (x.v false) := by simp [Wk.v,V.snap,V.snapL,mp,frs_shareL,cts_shareL,hds_shareL,rls_shareL]
@[simp] theorem Wk.snapA (t : Bool) (x : Wk) (q : St) : V.snapA q (x.v t) = some (x.v false) := Wk.snap t x q
@[simp] theorem Wk.snapP (t : Bool) (x : Wk) (q : St) : V.snapP q (x.v t) = some (x.v false) := Wk.snap t x q
@[simp] theorem Wk.accM (t : Bool) (x : Wk) : V.accM (x.v t) = [] := by simp [Wk.v,V.accM,V.accML]
@[simp] theorem Wk.accF (t : Bool) (x : Wk) : V.accF (x.v t) = [] := by simp [Wk.v,V.accF,V.accFL]
@[simp] theorem Wk.ren (t : Bool) (x : Wk) (ρ : Nat → Option Nat) (vr : Nat → Nat) : V.ren ρ vr (x.v t) = x.v t := by simp [Wk.v,V.ren,V.renL]
@[simp] theorem Wk.bA (i : Nat) (t : Bool) (x : Wk) (r : List V) : bindArgs i (x.v t :: r) = ((i,x.v t) :: (bindArgs (i + 1) r).1,(bindArgs (i + 1) r).2) := rfl
@[simp] theorem Wk.lodF (x : Wk) (o i ver : Nat) (fs : List Nat) : V.lod o i ver fs (x.v false) = x.v false := by simp [Wk.v,V.lod,V.lodL]
@[simp] theorem Wk.fzF (x : Wk) (s : St) : V.fz (x.v false) s = some (x.v false,s) := by simp [Wk.v,V.fz,V.fzL,mp]
@[simp] theorem Wk.fzI (t : Bool) (x : Wk) (s : St) : V.fzI (x.v t) s = some (x.v t,s) := by cases t <;> simp [Wk.v,V.fz,V.fzI,V.fzIL,mp]
@[simp] theorem Wk.scal (t : Bool) (x : Wk) : V.scal (x.v t) = false := by simp [Wk.v,V.scal,V.scalL]
@[simp] theorem Wk.isTup (t : Bool) (x : Wk) : (x.v t).isTup = false := rfl
@[simp] theorem Wk.tidyT (x : Wk) : V.tidy (x.v true) = true := by simp [Wk.v,V.tidy,V.tidyL,frs_tidyT,cts_tidyT,hds_tidyT,rls_tidyT]
@[simp] theorem wks_tidyT (l : List Wk) : V.tidyL (wks true l) = true := by
  induction l with
  | nil => rfl
  | cons x l ih => simp [V.tidyL,ih]
@[simp] theorem Wk.thawF (x : Wk) (id : Nat) : V.thaw id (x.v false) = (x.v false,[],id) := by simp [Wk.v,V.thaw,V.thawL]
@[simp] theorem Wk.thawT (x : Wk) (id : Nat) : V.thaw id (x.v true) = (.agg [.ref (id) 0 x.inbox.length,.ref (id + 1) 0 x.counts.length,.ref (id + 1 + 1) 0 x.nodes.length,.int .i64 x.ep,.int .i64 x.top,.ref (id + 1 + 1 + 1) 0 x.outs.length,.bool x.bad],[(id,⟨false,false,6,frs true x.inbox,0⟩),(id + 1,⟨false,false,3,cts x.counts,0⟩),(id + 1 + 1,⟨false,false,4,hds true x.nodes,0⟩),(id + 1 + 1 + 1,⟨false,false,3,rls true x.outs,0⟩)],id + 1 + 1 + 1 + 1) := by simp [Wk.v,V.thaw,V.thawL]
end Go.Proofs.YtadaeiahfidodaaGreat.Ev
namespace Go.Proofs.YtadaeiahfidodaaGreat.Ev
open Go
set_option maxRecDepth 100000
set_option linter.unusedSimpArgs false
set_option linter.unusedVariables false
set_option maxHeartbeats 2000000
theorem sz_I (l : List Int) (a : Int) (h : l.length < 4611686018427387904) (ha : 0 ≤ a) (hb : a < 4611686018427387904) : oc.call 63 [.lst false 0 (ints l),.int .i64 a] = some (.int .i64 (szI l.length a),[]) := by
  have := e_sz 0 (ints l) a (by simpa using h) ha hb
  simpa [szI] using this
def wS {α : Type} (f : α → Nat) (l : List α) : Nat := (l.map f).sum
@[simp] theorem wS_nil {α : Type} (f : α → Nat) : wS f [] = 0 := rfl
@[simp] theorem wS_cons {α : Type} (f : α → Nat) (x : α) (l : List α) : wS f (x :: l) = f x + wS f l := by simp [wS]
theorem wS_mem {α : Type} {f : α → Nat} : ∀ {l : List α} {x : α},x ∈ l → f x ≤ wS f l
  | y :: l,x,h => by
    rcases List.mem_cons.1 h with rfl | h
    · simp
    · have := wS_mem (f:=f) h;simp;omega
theorem szI_pos {n : Nat} {a : Int} (h : 0 ≤ szI n a) : szI n a = a - n ∧ (n : Int) ≤ a := by
  unfold szI at *;split at h <;> simp_all <;> omega
theorem szI_le0 {n : Nat} {a : Int} (h : 0 ≤ a) : szI n a ≤ a := by unfold szI;split <;> omega
theorem szI_seq {m n : Nat} {a : Int} (h : 0 ≤ szI m a) : szI n (szI m a) = szI (m + n) a := by
  obtain ⟨h1,h2⟩ := szI_pos h
  rw [h1];unfold szI;split <;> split <;> omega
theorem szI_stop {m n : Nat} {a : Int} (ha : 0 ≤ a) (h : szI m a < 0) : szI (m + n) a = -1 := by
  unfold szI at *;split at h
  · rw [if_pos (by omega)]
  · omega
theorem sz_Cts (l : List Ct) (a : Int) (hb : l.length ≤ 140737488351232) (ha : 0 ≤ a) (hc : a < 2000000) : oc.call 64 [.lst false 0 (cts l),.int .i64 a] = some (.int .i64 (szI l.length a),[]) := by
 refine fun_s rfl cd64 rfl rfl rfl (by simp;rfl) (by simp;rfl) ?_
 have hw : IntKind.i64.wrap (a - l.length) = a - l.length := wrap_id (by omega) (by omega)
 refine wa_ (wc_region (w_ (a_ (h:=wo_nil (e_ (h:=aft_normal (wa_ (wc_region (w_ (m_ (h:=w_ (m_ (h:=w_ (le (h:=w_ (b_ (h:=w_ (a_ (h:=wo_nil (e_ (h:=aft_normal (wa_ (wa_ (wc_region (w_ (m_ (h:=w_ (b_ (h:=wo_nil (e_ (h:=aft_normal (?_))))))))))))))))))))))))))))))))
 refine c_ (h1:=?_) (h2:=?_)
 rotate_right 1
 focus
  intro c1
  refine wc_skip (?_)
 rotate_right 1
 focus
  intro c1
  refine wa_ (wc_region (w_ (a_ (h:=wo_nil (e_ (h:=aft_normal (wc_ret (?_))))))))
 all_goals first
 | refine aft_ret ?_
 | (
  refine aft_normal ?_
  refine wa_ (wc_region (w_ (m_ (h:=w_ (a_ (h:=wo_nil (e_ (h:=aft_normal (wc_ret (?_))))))))))
  )
 all_goals (refine fin_ (hr:=(res_tmp rfl res_nil)) (h:=?_);(focus (simp [szI,hw] at *;grind)))
theorem to_Ct (x : Ct) : oc.call 107 [x.v] = some (x.v,[]) := by
 refine fun_s rfl cd107 rfl rfl rfl (by simp;rfl) (by simp;rfl) ?_
 refine wa_ (wc_region (w_ (bx (h:=w_ (al (h:=wo_nil (e_ (h:=aft_normal (wa_ (wc_region (w_ (al (h:=wo_nil (e_ (h:=aft_normal (wa_ (wc_region (w_ (f_ (h:=w_ (l_ (h:=w_ (f_ (h:=w0 (s_ (h:=wo_nil (e_ (h:=aft_normal (wa_ (wc_region (w_ (f_ (h:=w_ (l_ (h:=w_ (f_ (h:=w0 (s_ (h:=wo_nil (e_ (h:=aft_normal (wa_ (wc_region (w_ (f_ (h:=?_))))))))))))))))))))))))))))))))))))))))))))))
 refine w_ (l_ (h:=w_ (f_ (h:=w0 (s_ (h:=wo_nil (e_ (h:=aft_normal (wa_ (wc_region (w_ (l_ (h:=w0 (s_ (h:=wo_nil (e_ (h:=aft_normal (wc_ret (?_)))))))))))))))))))
 all_goals (refine fin_ (hr:=(res_cell (tys_ok.zero _ _ rfl) rfl (by simp;rfl) (by rfl) res_nil)) (h:=?_);(focus (simp [Ct.v])))
theorem l_to_Cts (l : List Ct) (h : l.length < 2000000) : ∀ x : Nat × (List Ct),(x.1 ≤ l.length ∧ x.2.length = l.length ∧ x.2.take x.1 = l.take x.1) → ∀ s,normE 1 (some [0,3,4]) s = ⟨[(0,.lst false 0 (cts l)),(3,.ref 1 0 l.length),(4,.int .i64 x.1)],[(1,⟨false,false,3,cts x.2,0⟩)],2⟩ →
 oc.loop 74 3 s = some (.exit 0,⟨[(3,.ref 1 0 l.length)],[(1,⟨false,false,3,cts l,0⟩)],2⟩) := by
 refine loop_ind (σ:=Nat × (List Ct)) (fun x => l.length - x.1) _ (fun x => ⟨[(0,.lst false 0 (cts l)),(3,.ref 1 0 l.length),(4,.int .i64 x.1)],[(1,⟨false,false,3,cts x.2,0⟩)],2⟩) _ ?_
 rintro ⟨i,r⟩ hi ih s hs
 simp only at hi
 refine loop_s cd74 rfl rfl hs ?_
 obtain ⟨hi1,hi2,hi3⟩ := hi
 refine wa_ (wa_ (wc_region (w_ (m_ (h:=w_ (m_ (h:=w_ (le (h:=w_ (b_ (h:=wo_nil (e_ (h:=aft_normal (?_))))))))))))))
 refine c_ (h1:=?_) (h2:=?_)
 rotate_right 1
 focus
  intro c1
  simp at c1;have : i = l.length := (by omega);subst this;rw [← hi2] at hi3;simp at hi3;rw [hi2] at hi3;simp at hi3;subst hi3
  refine wc_exit (?_)
 rotate_right 1
 focus
  intro c1
  simp at c1;have hw := wrap_succ (i:=i) (by omega);obtain ⟨d,hx,d1,g1⟩ := cts_cut c1;obtain ⟨y,hy,_,g2⟩ := cts_cut (l:=r) (i:=i) (by omega);simp at g2
  refine wc_skip (?_)
 all_goals first
 | refine aft_exit ?_
 | (
  refine aft_normal ?_
  refine wa_ (wc_block (wc_region (w_ (m_ (h:=w_ (m_ (h:=w_ (m_ (h:=w_ (m_ (h:=w_ (x_ (h:=w_ (l_ (h:=w_ (ca (hc:=to_Ct d) (h:=w_ (x_ (h:=w0 (s_ (h:=wo_nil (e_ (h:=blk_normal (aft_normal (wc_region (w_ (m_ (h:=w_ (b_ (h:=w_ (a_ (h:=wo_nil (e_ (h:=?_))))))))))))))))))))))))))))))))))
  )
 all_goals first
 | (refine (ih ((i + 1,r.set i d)) (⟨by simp;omega,by simpa using hi2,set_take hi3 hi2 hx⟩) ?_ _ ?_).trans ?_;(focus (first | omega | (simp;done) | (simp;omega)));(focus (simp [normE,hw];done));(focus (rfl)))
 | (apply end_leaf (ex:=(Ext.exit 0)) 1 (some [3]);(focus (simp [normE];rfl));(focus (simp)))
theorem to_Cts (l : List Ct) (h : l.length < 2000000) : oc.call 74 [.lst false 0 (cts l)] = some (.lst true 3 (cts l),[]) := by
 refine fun_s rfl cd74 rfl rfl rfl (by simp;rfl) (by simp;rfl) ?_
 refine wa_ (wc_region (w_ (aN (h:=wo_nil (e_ (h:=aft_normal (wa_ (wc_region (w_ (m_ (h:=w_ (le (h:=w_ (mk (h:=w_ (a_ (h:=wo_nil (e_ (h:=aft_normal (wa_ (wa_ (wc_region (w_ (a_ (h:=wo_nil (e_ (h:=aft_normal (wc_block (?_)))))))))))))))))))))))))))))
 refine wc_loop (l_to_Cts l h (0,List.replicate l.length ⟨0,0,0⟩) (by simp) _ (by simp [normE,cts_zero])) ?_
 refine blk_exit (aft_normal (wa_ (wc_region (w_ (m_ (h:=w_ (a_ (h:=wo_nil (e_ (h:=aft_normal (wc_ret (?_))))))))))))
 all_goals (refine fin_ (hr:=(res_tmp rfl res_nil)) (h:=?_);(focus (first | (simp_all;done) | (simp_all <;> omega) | (simp_all <;> split <;> simp_all <;> omega))))
theorem eq_Ct (x y : Ct) : oc.call 120 [x.v,y.v] = some (.bool (decide (x = y)),[]) := by
 refine fun_s rfl cd120 rfl rfl rfl (by simp;rfl) (by simp;rfl) ?_
 refine wa_ (wc_region (w_ (bx (h:=w_ (bx (h:=w_ (a_ (h:=wo_nil (e_ (h:=aft_normal (wa_ (wa_ (wc_region (w_ (f_ (h:=w_ (l_ (h:=w_ (f_ (h:=w_ (l_ (h:=w_ (bE (h:=wo_nil (e_ (h:=aft_normal (?_)))))))))))))))))))))))))))
 refine c_ (h1:=?_) (h2:=?_)
 rotate_right 1
 focus
  intro c1
  refine wc_skip (?_)
 rotate_right 1
 focus
  intro c1
  refine wa_ (wc_region (w_ (a_ (h:=wo_nil (e_ (h:=aft_normal (wc_ret (?_))))))))
 all_goals first
 | refine aft_ret ?_
 | (
  refine aft_normal ?_
  refine wa_ (wa_ (wc_region (w_ (f_ (h:=w_ (l_ (h:=w_ (f_ (h:=w_ (l_ (h:=w_ (bE (h:=wo_nil (e_ (h:=aft_normal (?_))))))))))))))))
  refine c_ (h1:=?_) (h2:=?_)
  rotate_right 1
  focus
   intro c2
   refine wc_skip (?_)
  rotate_right 1
  focus
   intro c2
   refine wa_ (wc_region (w_ (a_ (h:=wo_nil (e_ (h:=aft_normal (wc_ret (?_))))))))
  all_goals first
  | refine aft_ret ?_
  | (
   refine aft_normal ?_
   refine wa_ (wa_ (wc_region (w_ (f_ (h:=w_ (l_ (h:=w_ (f_ (h:=w_ (l_ (h:=w_ (bE (h:=wo_nil (e_ (h:=aft_normal (?_))))))))))))))))
   refine c_ (h1:=?_) (h2:=?_)
   rotate_right 1
   focus
    intro c3
    refine wc_skip (?_)
   rotate_right 1
   focus
    intro c3
    refine wa_ (wc_region (w_ (a_ (h:=wo_nil (e_ (h:=aft_normal (wc_ret (?_))))))))
   all_goals first
   | refine aft_ret ?_
   | (
    refine aft_normal ?_
    refine wa_ (wc_region (w_ (a_ (h:=wo_nil (e_ (h:=aft_normal (wc_ret (?_))))))))
    )
   )
  )
 all_goals (refine fin_ (hr:=(res_tmp rfl res_nil)) (h:=?_);(focus (first | (simp_all [Ct.eq_iff];done) | (simp [Ct.eq_iff] at *;grind))))
theorem l_eq_Cts (l m : List Ct) (h : l.length < 2000000) (h2 : m.length < 2000000) (hlm : l.length = m.length) : ∀ i : Nat,(i ≤ l.length) → ∀ s,normE 2 (some [0,1,5]) s = ⟨[(0,.lst false 0 (cts l)),(1,.lst false 0 (cts m)),(5,.int .i64 i)],[],2⟩ →
 oc.loop 90 4 s = some (if l.drop i = m.drop i then (.exit 0,⟨[],[],2⟩) else (.ret,⟨[(4,.bool false)],[],2⟩)) := by
 refine loop_ind (σ:=Nat) (fun i => l.length - i) _ (fun i => ⟨[(0,.lst false 0 (cts l)),(1,.lst false 0 (cts m)),(5,.int .i64 i)],[],2⟩) _ ?_
 intro i hi ih s hs
 refine loop_s cd90 rfl rfl hs ?_
 refine wa_ (wa_ (wc_region (w_ (m_ (h:=w_ (m_ (h:=w_ (le (h:=w_ (b_ (h:=wo_nil (e_ (h:=aft_normal (?_))))))))))))))
 refine c_ (h1:=?_) (h2:=?_)
 rotate_right 1
 focus
  intro c1
  simp at c1;have : i = l.length := (by omega);subst this
  refine wc_exit (?_)
 rotate_right 1
 focus
  intro c1
  simp at c1;have hw := wrap_succ (i:=i) (by omega);obtain ⟨x,hx,d1,g1⟩ := cts_cut c1;obtain ⟨y,hy,d2,g2⟩ := cts_cut (l:=m) (i:=i) (by omega)
  refine wc_skip (?_)
 all_goals first
 | refine aft_exit ?_
 | (
  refine aft_normal ?_
  refine wa_ (wc_block (wa_ (wc_draw (y_ (m_ (h:=ax_ (h:=y_ (m_ (h:=ax_ (h:=y_ (x_ (h:=ax_ (h:=y_ (l_ (h:=ax_ (h:=y_ (m_ (h:=ax_ (h:=y_ (m_ (h:=ax_ (h:=y_ (x_ (h:=ax_ (h:=y_ (l_ (h:=ax_ (h:=y_ (ca (hc:=eq_Ct x y) (h:=ax_ (h:=y_ (u_ (h:=ax_ (h:=wo_nil (ed (h:=aft_normal (?_)))))))))))))))))))))))))))))))))))))
  refine c_ (h1:=?_) (h2:=?_)
  rotate_right 1
  focus
   intro c2
   refine wc_skip (?_)
  rotate_right 1
  focus
   intro c2
   refine wa_ (wc_region (w_ (a_ (h:=wo_nil (e_ (h:=aft_normal (wc_ret (?_))))))))
  all_goals first | refine blk_normal ?_ | refine blk_ret ?_
  all_goals first
  | refine aft_ret ?_
  | (
   refine aft_normal ?_
   refine wc_region (w_ (m_ (h:=w_ (b_ (h:=w_ (a_ (h:=wo_nil (e_ (h:=?_)))))))))
   )
  )
 all_goals first
 | (refine (ih (i + 1) (by omega) ?_ _ ?_).trans ?_;(focus (first | omega | (simp;done) | (simp;omega)));(focus (simp [normE,hw];done));(focus (simp at c2;rw [d1,d2];simp [c2])))
 | (apply end_leaf (ex:=Ext.ret) 2 (some [4]);(focus (simp [normE];rfl));(focus (simp at c2;rw [d1,d2];simp [c2])))
 | (apply end_leaf (ex:=(Ext.exit 0)) 2 (some [4]);(focus (simp [normE];rfl));(focus (rw [if_pos (by simp [hlm])])))
theorem eq_Cts (l m : List Ct) (h : l.length < 2000000) (h2 : m.length < 2000000) : oc.call 90 [.lst false 0 (cts l),.lst false 0 (cts m)] = some (.bool (decide (l = m)),[]) := by
 refine fun_s rfl cd90 rfl rfl rfl (by simp;rfl) (by simp;rfl) ?_
 refine wa_ (wc_region (w_ (a_ (h:=wo_nil (e_ (h:=aft_normal (wa_ (wa_ (wc_region (w_ (m_ (h:=w_ (le (h:=w_ (m_ (h:=w_ (le (h:=w_ (bE (h:=wo_nil (e_ (h:=aft_normal (?_)))))))))))))))))))))))
 refine c_ (h1:=?_) (h2:=?_)
 rotate_right 1
 focus
  intro c1
  simp at c1
  refine wc_skip (?_)
 rotate_right 1
 focus
  intro c1
  simp at c1;have hne : l ≠ m := (by rintro rfl;exact c1 rfl)
  refine wa_ (wc_region (w_ (a_ (h:=wo_nil (e_ (h:=aft_normal (wc_ret (?_))))))))
 all_goals first
 | refine aft_ret ?_
 | (
  refine aft_normal ?_
  refine wa_ (wa_ (wc_region (w_ (a_ (h:=wo_nil (e_ (h:=aft_normal (wc_block (?_)))))))))
  refine wc_loopI (l_eq_Cts l m h h2 (by omega) 0 (by omega) _ (by simp [normE])) ?_ ?_
  rotate_right 1
  focus
   intro c2
   skip
  rotate_right 1
  focus
   intro c2
   skip
  all_goals first | refine blk_ret ?_ | refine blk_exit ?_
  all_goals first
  | refine aft_ret ?_
  | (
   refine aft_normal ?_
   refine wa_ (wc_region (w_ (a_ (h:=wo_nil (e_ (h:=aft_normal (wc_ret (?_))))))))
   )
  )
 all_goals (refine fin_ (hr:=(res_tmp rfl res_nil)) (h:=?_);(focus (first | (simp_all;done) | (simp_all <;> omega) | (simp_all <;> split <;> simp_all <;> omega))))
def w_Et (x : Et) : Nat := x.row.length
def bg_Et (x : Et) : Prop := x.row.length ≤ 140737488351232
def w_Ets (l : List Et) : Nat := l.length + wS w_Et l
def bg_Ets (l : List Et) : Prop := l.length ≤ 140737488351232 ∧ ∀ x ∈ l,bg_Et x
theorem w_Ets_mem {l : List Et} {x : Et} (h : x ∈ l) : l.length + w_Et x ≤ w_Ets l := by
  have := wS_mem (f:=w_Et) h;unfold w_Ets;omega
theorem w_Ets_len {l : List Et} : l.length ≤ w_Ets l := by unfold w_Ets;omega
theorem sz_Et (x : Et) (a : Int) (hb : bg_Et x) (ha : 0 ≤ a) (hc : a < 2000000) : oc.call 125 [x.v false,.int .i64 a] = some (.int .i64 (szI (w_Et x) a),[]) := by
 refine fun_s rfl cd125 rfl rfl rfl (by simp;rfl) (by simp;rfl) ?_
 unfold bg_Et at hb
 refine wa_ (wc_region (w_ (bx (h:=w_ (a_ (h:=wo_nil (e_ (h:=aft_normal (wa_ (wc_region (w_ (f_ (h:=w_ (l_ (h:=w_ (m_ (h:=w_ (ca (hc:=sz_I x.row (a) (by omega) (by omega) (by omega)) (h:=w_ (a_ (h:=wo_nil (e_ (h:=aft_normal (wa_ (wa_ (wc_region (w_ (m_ (h:=w_ (b_ (h:=wo_nil (e_ (h:=aft_normal (?_))))))))))))))))))))))))))))))))))
 refine c_ (h1:=?_) (h2:=?_)
 rotate_right 1
 focus
  intro c1
  first
  | exact dn c1
  | (
   have d1 := c1;try simp at d1
   have e1 := szI_pos (n:=x.row.length) (a:=a) (by omega)
   refine wc_skip (?_)
   )
 rotate_right 1
 focus
  intro c1
  first
  | exact dn c1
  | (
   have d1 := c1;try simp at d1
   refine wa_ (wc_region (w_ (a_ (h:=wo_nil (e_ (h:=aft_normal (wc_ret (?_))))))))
   )
 all_goals first
 | refine aft_ret ?_
 | (
  refine aft_normal ?_
  refine wa_ (wc_region (w_ (m_ (h:=w_ (a_ (h:=wo_nil (e_ (h:=aft_normal (wc_ret (?_))))))))))
  )
 all_goals (refine fin_ (hr:=(res_tmp rfl res_nil)) (h:=?_);(focus (simp [w_Et,szI] at *;grind)))
theorem l_sz_Ets (l : List Et) (hl : bg_Ets l) : ∀ x : Nat × Int,(x.1 ≤ l.length ∧ 0 ≤ x.2 ∧ x.2 < 2000000) → ∀ s,normE 2 (some [0,1,5]) s = ⟨[(0,.lst false 0 (ets false l)),(1,.int .i64 x.2),(5,.int .i64 x.1)],[],2⟩ →
 oc.loop 96 5 s = some (if 0 ≤ szI (wS w_Et (l.drop x.1)) x.2 then (.exit 0,⟨[(1,.int .i64 (szI (wS w_Et (l.drop x.1)) x.2))],[],2⟩) else (.ret,⟨[(1,.int .i64 (-1)),(4,.int .i64 (-1))],[],2⟩)) := by
 refine loop_ind (σ:=Nat × Int) (fun x => l.length - x.1) _ (fun x => ⟨[(0,.lst false 0 (ets false l)),(1,.int .i64 x.2),(5,.int .i64 x.1)],[],2⟩) _ ?_
 rintro ⟨i,a⟩ hi ih s hs
 simp only at hi
 refine loop_s cd96 rfl rfl hs ?_
 refine wa_ (wa_ (wc_region (w_ (m_ (h:=w_ (m_ (h:=w_ (le (h:=w_ (b_ (h:=wo_nil (e_ (h:=aft_normal (?_))))))))))))))
 refine c_ (h1:=?_) (h2:=?_)
 rotate_right 1
 focus
  intro c1
  first
  | exact dn c1
  | (
   have d1 := c1;try simp at d1
   obtain ⟨hi1,hi2,hi3⟩ := hi;have : i = l.length := (by omega);subst this
   refine wc_exit (?_)
   )
 rotate_right 1
 focus
  intro c1
  first
  | exact dn c1
  | (
   have d1 := c1;try simp at d1
   obtain ⟨hi1,hi2,hi3⟩ := hi;have hw := wrap_succ (i:=i) (by have := hl.1;omega);obtain ⟨d,hx,e1,g1⟩ := ets_cut (l:=l) (i:=i) (t:=false) (by omega);have hd := hl.2 d (List.mem_of_getElem? hx)
   refine wc_skip (?_)
   )
 all_goals first
 | refine aft_exit ?_
 | (
  refine aft_normal ?_
  refine wa_ (wc_block (wa_ (wc_region (w_ (m_ (h:=w_ (m_ (h:=w_ (x_ (h:=w_ (l_ (h:=w_ (m_ (h:=w_ (ca (hc:=sz_Et d a hd (by omega) (by omega)) (h:=w_ (a_ (h:=wo_nil (e_ (h:=aft_normal (wa_ (wc_region (w_ (m_ (h:=w_ (b_ (h:=wo_nil (e_ (h:=aft_normal (?_))))))))))))))))))))))))))))))
  refine c_ (h1:=?_) (h2:=?_)
  rotate_right 1
  focus
   intro c2
   first
   | exact dn c2
   | (
    have d2 := c2;try simp at d2
    refine wc_skip (?_)
    )
  rotate_right 1
  focus
   intro c2
   first
   | exact dn c2
   | (
    have d2 := c2;try simp at d2
    refine wa_ (wc_region (w_ (a_ (h:=wo_nil (e_ (h:=aft_normal (wc_ret (?_))))))))
    )
  all_goals first | refine blk_normal ?_ | refine blk_ret ?_
  all_goals first
  | refine aft_ret ?_
  | (
   refine aft_normal ?_
   refine wc_region (w_ (m_ (h:=w_ (b_ (h:=w_ (a_ (h:=wo_nil (e_ (h:=?_)))))))))
   )
  )
 all_goals first
 | (refine (ih ((i + 1,szI (w_Et d) a)) (⟨by simp;omega,by simp;omega,by have := szI_le0 (n:=w_Et d) (a:=a) (by omega);simp;omega⟩) ?_ _ ?_).trans ?_;(focus (first | omega | (simp;done) | (simp;omega)));(focus (simp [normE,hw];done));(focus (simp only [e1,wS_cons];rw [szI_seq (by omega)])))
 | (apply end_leaf (ex:=Ext.ret) 2 (some [1,4]);(focus (simp [normE];rfl));(focus (simp only [e1,wS_cons];rw [szI_stop (by omega) (by omega)];simp;have := szI_neg (c:=w_Et d) (a:=a) (by omega);simp [this])))
 | (apply end_leaf (ex:=(Ext.exit 0)) 2 (some [1,4]);(focus (simp [normE];rfl));(focus (have e0 : szI 0 a = a := (by unfold szI;rw [if_neg (by omega)];simp);simp [e0,hi2])))
theorem sz_Ets (l : List Et) (a : Int) (hb : bg_Ets l) (ha : 0 ≤ a) (hc : a < 2000000) : oc.call 96 [.lst false 0 (ets false l),.int .i64 a] = some (.int .i64 (szI (w_Ets l) a),[]) := by
 refine fun_s rfl cd96 rfl rfl rfl (by simp;rfl) (by simp;rfl) ?_
 have hb1 := hb.1
 have hw : IntKind.i64.wrap (a - l.length) = a - l.length := wrap_id (by omega) (by omega)
 refine wa_ (wc_region (w_ (a_ (h:=wo_nil (e_ (h:=aft_normal (wa_ (wc_region (w_ (m_ (h:=w_ (m_ (h:=w_ (le (h:=w_ (b_ (h:=w_ (a_ (h:=wo_nil (e_ (h:=aft_normal (wa_ (wa_ (wc_region (w_ (m_ (h:=w_ (b_ (h:=wo_nil (e_ (h:=aft_normal (?_))))))))))))))))))))))))))))))))
 refine c_ (h1:=?_) (h2:=?_)
 rotate_right 1
 focus
  intro c1
  first
  | exact dn c1
  | (
   have d1 := c1;try simp at d1
   simp only [hw] at d1;have e1 : szI l.length a = a - l.length := (by unfold szI;rw [if_neg (by omega)])
   refine wc_skip (?_)
   )
 rotate_right 1
 focus
  intro c1
  first
  | exact dn c1
  | (
   have d1 := c1;try simp at d1
   refine wa_ (wc_region (w_ (a_ (h:=wo_nil (e_ (h:=aft_normal (wc_ret (?_))))))))
   )
 all_goals first
 | refine aft_ret ?_
 | (
  refine aft_normal ?_
  refine wa_ (wa_ (wc_region (w_ (a_ (h:=wo_nil (e_ (h:=aft_normal (wc_block (?_)))))))))
  refine wc_loopI (l_sz_Ets l hb (0,a - l.length) ⟨by simp,by simp;omega,by simp;omega⟩ _ (by simp [normE,hw])) ?_ ?_
  rotate_right 1
  focus
   intro c2
   first
   | exact dn c2
   | (
    have d2 := c2;try simp at d2
    skip
    )
  rotate_right 1
  focus
   intro c2
   first
   | exact dn c2
   | (
    have d2 := c2;try simp at d2
    skip
    )
  all_goals first | refine blk_ret ?_ | refine blk_exit ?_
  all_goals first
  | refine aft_ret ?_
  | (
   refine aft_normal ?_
   refine wa_ (wc_region (w_ (m_ (h:=w_ (a_ (h:=wo_nil (e_ (h:=aft_normal (wc_ret (?_))))))))))
   )
  )
 all_goals (refine fin_ (hr:=(res_tmp rfl res_nil)) (h:=?_);(focus (simp [w_Ets,szI,hw] at *;grind)))
theorem to_Et (x : Et) (h : w_Et x < 2000000) : oc.call 131 [x.v false] = some (x.v true,[]) := by
 refine fun_s rfl cd131 rfl rfl rfl (by simp;rfl) (by simp;rfl) ?_
 unfold w_Et at h
 refine wa_ (wc_region (w_ (bx (h:=w_ (al (h:=wo_nil (e_ (h:=aft_normal (wa_ (wc_region (w_ (al (h:=wo_nil (e_ (h:=aft_normal (wa_ (wc_region (w_ (f_ (h:=w_ (l_ (h:=w_ (ca (hc:=e_toI x.row _ (by omega)) (h:=w_ (f_ (h:=w0 (s_ (h:=wo_nil (e_ (h:=aft_normal (wa_ (wc_region (w_ (f_ (h:=w_ (l_ (h:=w_ (f_ (h:=w0 (s_ (h:=wo_nil (e_ (h:=aft_normal (wa_ (wc_region (?_))))))))))))))))))))))))))))))))))))))))))))))
 refine w_ (l_ (h:=w0 (s_ (h:=wo_nil (e_ (h:=aft_normal (wc_ret (?_))))))))
 all_goals (refine fin_ (hr:=(res_cell (tys_ok.zero _ _ rfl) rfl (by simp;rfl) (by rfl) res_nil)) (h:=?_);(focus (simp [Et.v])))
theorem l_to_Ets (l : List Et) (h : w_Ets l < 2000000) : ∀ x : Nat × (List Et),(x.1 ≤ l.length ∧ x.2.length = l.length ∧ x.2.take x.1 = l.take x.1) → ∀ s,normE 1 (some [0,3,4]) s = ⟨[(0,.lst false 0 (ets false l)),(3,.ref 1 0 l.length),(4,.int .i64 x.1)],[(1,⟨false,false,2,ets true x.2,0⟩)],2⟩ →
 oc.loop 110 3 s = some (.exit 0,⟨[(3,.ref 1 0 l.length)],[(1,⟨false,false,2,ets true l,0⟩)],2⟩) := by
 refine loop_ind (σ:=Nat × (List Et)) (fun x => l.length - x.1) _ (fun x => ⟨[(0,.lst false 0 (ets false l)),(3,.ref 1 0 l.length),(4,.int .i64 x.1)],[(1,⟨false,false,2,ets true x.2,0⟩)],2⟩) _ ?_
 rintro ⟨i,r⟩ hi ih s hs
 simp only at hi
 refine loop_s cd110 rfl rfl hs ?_
 obtain ⟨hi1,hi2,hi3⟩ := hi
 have hlen := w_Ets_len (l:=l)
 refine wa_ (wa_ (wc_region (w_ (m_ (h:=w_ (m_ (h:=w_ (le (h:=w_ (b_ (h:=wo_nil (e_ (h:=aft_normal (?_))))))))))))))
 refine c_ (h1:=?_) (h2:=?_)
 rotate_right 1
 focus
  intro c1
  simp at c1;have : i = l.length := (by omega);subst this;rw [← hi2] at hi3;simp at hi3;rw [hi2] at hi3;simp at hi3;subst hi3
  refine wc_exit (?_)
 rotate_right 1
 focus
  intro c1
  simp at c1;have hw := wrap_succ (i:=i) (by omega);obtain ⟨d,hx,d1,g1⟩ := ets_cut (t:=false) c1;have hd := w_Ets_mem (List.mem_of_getElem? hx);obtain ⟨y,hy,_,g2⟩ := ets_cut (t:=true) (l:=r) (i:=i) (by omega);simp at g2
  refine wc_skip (?_)
 all_goals first
 | refine aft_exit ?_
 | (
  refine aft_normal ?_
  refine wa_ (wc_block (wc_region (w_ (m_ (h:=w_ (m_ (h:=w_ (m_ (h:=w_ (m_ (h:=w_ (x_ (h:=w_ (l_ (h:=w_ (ca (hc:=to_Et d (by omega)) (h:=w_ (x_ (h:=w0 (s_ (h:=wo_nil (e_ (h:=blk_normal (aft_normal (wc_region (w_ (m_ (h:=w_ (b_ (h:=w_ (a_ (h:=wo_nil (e_ (h:=?_))))))))))))))))))))))))))))))))))
  )
 all_goals first
 | (refine (ih ((i + 1,r.set i d)) (⟨by simp;omega,by simpa using hi2,set_take hi3 hi2 hx⟩) ?_ _ ?_).trans ?_;(focus (first | omega | (simp;done) | (simp;omega)));(focus (simp [normE,hw];done));(focus (rfl)))
 | (apply end_leaf (ex:=(Ext.exit 0)) 1 (some [3]);(focus (simp [normE];rfl));(focus (simp)))
theorem to_Ets (l : List Et) (h : w_Ets l < 2000000) : oc.call 110 [.lst false 0 (ets false l)] = some (.lst true 2 (ets true l),[]) := by
 refine fun_s rfl cd110 rfl rfl rfl (by simp;rfl) (by simp;rfl) ?_
 have hlen := w_Ets_len (l:=l)
 refine wa_ (wc_region (w_ (aN (h:=wo_nil (e_ (h:=aft_normal (wa_ (wc_region (w_ (m_ (h:=w_ (le (h:=w_ (mk (h:=w_ (a_ (h:=wo_nil (e_ (h:=aft_normal (wa_ (wa_ (wc_region (w_ (a_ (h:=wo_nil (e_ (h:=aft_normal (wc_block (?_)))))))))))))))))))))))))))))
 refine wc_loop (l_to_Ets l h (0,List.replicate l.length ⟨[],0⟩) (by simp) _ (by simp [normE,ets_zero])) ?_
 refine blk_exit (aft_normal (wa_ (wc_region (w_ (m_ (h:=w_ (a_ (h:=wo_nil (e_ (h:=aft_normal (wc_ret (?_))))))))))))
 all_goals (refine fin_ (hr:=(res_tmp rfl res_nil)) (h:=?_);(focus (first | (simp_all;done) | (simp_all <;> omega) | (simp_all <;> split <;> simp_all <;> omega))))
theorem eq_Et (x y : Et) (h : w_Et x < 2000000) (h2 : w_Et y < 2000000) : oc.call 140 [x.v false,y.v false] = some (.bool (decide (x = y)),[]) := by
 refine fun_s rfl cd140 rfl rfl rfl (by simp;rfl) (by simp;rfl) ?_
 unfold w_Et at h h2
 refine wa_ (wc_region (w_ (bx (h:=w_ (bx (h:=w_ (a_ (h:=wo_nil (e_ (h:=aft_normal (wa_ (wa_ (wc_region (w_ (f_ (h:=w_ (l_ (h:=w_ (f_ (h:=w_ (l_ (h:=w_ (ca (hc:=e_eqI x.row y.row 0 0 (by omega) (by omega)) (h:=w_ (u_ (h:=wo_nil (e_ (h:=aft_normal (?_)))))))))))))))))))))))))))))
 refine c_ (h1:=?_) (h2:=?_)
 rotate_right 1
 focus
  intro c1
  refine wc_skip (?_)
 rotate_right 1
 focus
  intro c1
  refine wa_ (wc_region (w_ (a_ (h:=wo_nil (e_ (h:=aft_normal (wc_ret (?_))))))))
 all_goals first
 | refine aft_ret ?_
 | (
  refine aft_normal ?_
  refine wa_ (wa_ (wc_region (w_ (f_ (h:=w_ (l_ (h:=w_ (f_ (h:=w_ (l_ (h:=w_ (bE (h:=wo_nil (e_ (h:=aft_normal (?_))))))))))))))))
  refine c_ (h1:=?_) (h2:=?_)
  rotate_right 1
  focus
   intro c2
   refine wc_skip (?_)
  rotate_right 1
  focus
   intro c2
   refine wa_ (wc_region (w_ (a_ (h:=wo_nil (e_ (h:=aft_normal (wc_ret (?_))))))))
  all_goals first
  | refine aft_ret ?_
  | (
   refine aft_normal ?_
   refine wa_ (wc_region (w_ (a_ (h:=wo_nil (e_ (h:=aft_normal (wc_ret (?_))))))))
   )
  )
 all_goals (refine fin_ (hr:=(res_tmp rfl res_nil)) (h:=?_);(focus (first | (simp_all [Et.eq_iff];done) | (simp [Et.eq_iff] at *;grind))))
theorem l_eq_Ets (l m : List Et) (h : w_Ets l < 2000000) (h2 : w_Ets m < 2000000) (hlm : l.length = m.length) : ∀ i : Nat,(i ≤ l.length) → ∀ s,normE 2 (some [0,1,5]) s = ⟨[(0,.lst false 0 (ets false l)),(1,.lst false 0 (ets false m)),(5,.int .i64 i)],[],2⟩ →
 oc.loop 123 4 s = some (if l.drop i = m.drop i then (.exit 0,⟨[],[],2⟩) else (.ret,⟨[(4,.bool false)],[],2⟩)) := by
 refine loop_ind (σ:=Nat) (fun i => l.length - i) _ (fun i => ⟨[(0,.lst false 0 (ets false l)),(1,.lst false 0 (ets false m)),(5,.int .i64 i)],[],2⟩) _ ?_
 intro i hi ih s hs
 refine loop_s cd123 rfl rfl hs ?_
 have hl1 := w_Ets_len (l:=l)
 refine wa_ (wa_ (wc_region (w_ (m_ (h:=w_ (m_ (h:=w_ (le (h:=w_ (b_ (h:=wo_nil (e_ (h:=aft_normal (?_))))))))))))))
 refine c_ (h1:=?_) (h2:=?_)
 rotate_right 1
 focus
  intro c1
  simp at c1;have : i = l.length := (by omega);subst this
  refine wc_exit (?_)
 rotate_right 1
 focus
  intro c1
  simp at c1;have hw := wrap_succ (i:=i) (by omega);obtain ⟨x,hx,d1,g1⟩ := ets_cut (t:=false) c1;obtain ⟨y,hy,d2,g2⟩ := ets_cut (t:=false) (l:=m) (i:=i) (by omega);have m1 := w_Ets_mem (List.mem_of_getElem? hx);have m2 := w_Ets_mem (List.mem_of_getElem? hy)
  refine wc_skip (?_)
 all_goals first
 | refine aft_exit ?_
 | (
  refine aft_normal ?_
  refine wa_ (wc_block (wa_ (wc_draw (y_ (m_ (h:=ax_ (h:=y_ (m_ (h:=ax_ (h:=y_ (x_ (h:=ax_ (h:=y_ (l_ (h:=ax_ (h:=y_ (m_ (h:=ax_ (h:=y_ (m_ (h:=ax_ (h:=y_ (x_ (h:=ax_ (h:=y_ (l_ (h:=ax_ (h:=y_ (ca (hc:=eq_Et x y (by omega) (by omega)) (h:=ax_ (h:=y_ (u_ (h:=ax_ (h:=wo_nil (ed (h:=aft_normal (?_)))))))))))))))))))))))))))))))))))))
  refine c_ (h1:=?_) (h2:=?_)
  rotate_right 1
  focus
   intro c2
   refine wc_skip (?_)
  rotate_right 1
  focus
   intro c2
   refine wa_ (wc_region (w_ (a_ (h:=wo_nil (e_ (h:=aft_normal (wc_ret (?_))))))))
  all_goals first | refine blk_normal ?_ | refine blk_ret ?_
  all_goals first
  | refine aft_ret ?_
  | (
   refine aft_normal ?_
   refine wc_region (w_ (m_ (h:=w_ (b_ (h:=w_ (a_ (h:=wo_nil (e_ (h:=?_)))))))))
   )
  )
 all_goals first
 | (refine (ih (i + 1) (by omega) ?_ _ ?_).trans ?_;(focus (first | omega | (simp;done) | (simp;omega)));(focus (simp [normE,hw];done));(focus (simp at c2;rw [d1,d2];simp [c2])))
 | (apply end_leaf (ex:=Ext.ret) 2 (some [4]);(focus (simp [normE];rfl));(focus (simp at c2;rw [d1,d2];simp [c2])))
 | (apply end_leaf (ex:=(Ext.exit 0)) 2 (some [4]);(focus (simp [normE];rfl));(focus (rw [if_pos (by simp [hlm])])))
theorem eq_Ets (l m : List Et) (h : w_Ets l < 2000000) (h2 : w_Ets m < 2000000) : oc.call 123 [.lst false 0 (ets false l),.lst false 0 (ets false m)] = some (.bool (decide (l = m)),[]) := by
 refine fun_s rfl cd123 rfl rfl rfl (by simp;rfl) (by simp;rfl) ?_
 refine wa_ (wc_region (w_ (a_ (h:=wo_nil (e_ (h:=aft_normal (wa_ (wa_ (wc_region (w_ (m_ (h:=w_ (le (h:=w_ (m_ (h:=w_ (le (h:=w_ (bE (h:=wo_nil (e_ (h:=aft_normal (?_)))))))))))))))))))))))
 refine c_ (h1:=?_) (h2:=?_)
 rotate_right 1
 focus
  intro c1
  simp at c1
  refine wc_skip (?_)
 rotate_right 1
 focus
  intro c1
  simp at c1;have hne : l ≠ m := (by rintro rfl;exact c1 rfl)
  refine wa_ (wc_region (w_ (a_ (h:=wo_nil (e_ (h:=aft_normal (wc_ret (?_))))))))
 all_goals first
 | refine aft_ret ?_
 | (
  refine aft_normal ?_
  refine wa_ (wa_ (wc_region (w_ (a_ (h:=wo_nil (e_ (h:=aft_normal (wc_block (?_)))))))))
  refine wc_loopI (l_eq_Ets l m h h2 (by omega) 0 (by omega) _ (by simp [normE])) ?_ ?_
  rotate_right 1
  focus
   intro c2
   skip
  rotate_right 1
  focus
   intro c2
   skip
  all_goals first | refine blk_ret ?_ | refine blk_exit ?_
  all_goals first
  | refine aft_ret ?_
  | (
   refine aft_normal ?_
   refine wa_ (wc_region (w_ (a_ (h:=wo_nil (e_ (h:=aft_normal (wc_ret (?_))))))))
   )
  )
 all_goals (refine fin_ (hr:=(res_tmp rfl res_nil)) (h:=?_);(focus (first | (simp_all;done) | (simp_all <;> omega) | (simp_all <;> split <;> simp_all <;> omega))))
def w_Fr (x : Fr) : Nat := w_Ets x.set + x.news.length
def bg_Fr (x : Fr) : Prop := bg_Ets x.set ∧ x.news.length ≤ 140737488351232
def w_Frs (l : List Fr) : Nat := l.length + wS w_Fr l
def bg_Frs (l : List Fr) : Prop := l.length ≤ 140737488351232 ∧ ∀ x ∈ l,bg_Fr x
theorem w_Frs_mem {l : List Fr} {x : Fr} (h : x ∈ l) : l.length + w_Fr x ≤ w_Frs l := by
  have := wS_mem (f:=w_Fr) h;unfold w_Frs;omega
theorem w_Frs_len {l : List Fr} : l.length ≤ w_Frs l := by unfold w_Frs;omega
theorem sz_Fr (x : Fr) (a : Int) (hb : bg_Fr x) (ha : 0 ≤ a) (hc : a < 2000000) : oc.call 67 [x.v false,.int .i64 a] = some (.int .i64 (szI (w_Fr x) a),[]) := by
 refine fun_s rfl cd67 rfl rfl rfl (by simp;rfl) (by simp;rfl) ?_
 unfold bg_Fr at hb
 refine wa_ (wc_region (w_ (bx (h:=w_ (a_ (h:=wo_nil (e_ (h:=aft_normal (wa_ (wc_region (w_ (f_ (h:=w_ (l_ (h:=w_ (m_ (h:=w_ (ca (hc:=sz_Ets x.set (a) hb.1 (by omega) (by omega)) (h:=w_ (a_ (h:=wo_nil (e_ (h:=aft_normal (wa_ (wa_ (wc_region (w_ (m_ (h:=w_ (b_ (h:=wo_nil (e_ (h:=aft_normal (?_))))))))))))))))))))))))))))))))))
 refine c_ (h1:=?_) (h2:=?_)
 rotate_right 1
 focus
  intro c1
  first
  | exact dn c1
  | (
   have d1 := c1;try simp at d1
   have e1 := szI_pos (n:=w_Ets x.set) (a:=a) (by omega)
   refine wc_skip (?_)
   )
 rotate_right 1
 focus
  intro c1
  first
  | exact dn c1
  | (
   have d1 := c1;try simp at d1
   refine wa_ (wc_region (w_ (a_ (h:=wo_nil (e_ (h:=aft_normal (wc_ret (?_))))))))
   )
 all_goals first
 | refine aft_ret ?_
 | (
  refine aft_normal ?_
  refine wa_ (wc_region (w_ (f_ (h:=w_ (l_ (h:=w_ (m_ (h:=w_ (ca (hc:=sz_Cts x.news (szI (w_Ets x.set) (a)) hb.2 (by omega) (by omega)) (h:=w_ (a_ (h:=wo_nil (e_ (h:=aft_normal (wa_ (wa_ (wc_region (w_ (m_ (h:=w_ (b_ (h:=wo_nil (e_ (h:=aft_normal (?_)))))))))))))))))))))))))
  refine c_ (h1:=?_) (h2:=?_)
  rotate_right 1
  focus
   intro c2
   first
   | exact dn c2
   | (
    have d2 := c2;try simp at d2
    have e2 := szI_pos (n:=x.news.length) (a:=szI (w_Ets x.set) (a)) (by omega)
    refine wc_skip (?_)
    )
  rotate_right 1
  focus
   intro c2
   first
   | exact dn c2
   | (
    have d2 := c2;try simp at d2
    refine wa_ (wc_region (w_ (a_ (h:=wo_nil (e_ (h:=aft_normal (wc_ret (?_))))))))
    )
  all_goals first
  | refine aft_ret ?_
  | (
   refine aft_normal ?_
   refine wa_ (wc_region (w_ (m_ (h:=w_ (a_ (h:=wo_nil (e_ (h:=aft_normal (wc_ret (?_))))))))))
   )
  )
 all_goals (refine fin_ (hr:=(res_tmp rfl res_nil)) (h:=?_);(focus (simp [w_Fr,szI] at *;grind)))
theorem l_sz_Frs (l : List Fr) (hl : bg_Frs l) : ∀ x : Nat × Int,(x.1 ≤ l.length ∧ 0 ≤ x.2 ∧ x.2 < 2000000) → ∀ s,normE 2 (some [0,1,5]) s = ⟨[(0,.lst false 0 (frs false l)),(1,.int .i64 x.2),(5,.int .i64 x.1)],[],2⟩ →
 oc.loop 40 5 s = some (if 0 ≤ szI (wS w_Fr (l.drop x.1)) x.2 then (.exit 0,⟨[(1,.int .i64 (szI (wS w_Fr (l.drop x.1)) x.2))],[],2⟩) else (.ret,⟨[(1,.int .i64 (-1)),(4,.int .i64 (-1))],[],2⟩)) := by
 refine loop_ind (σ:=Nat × Int) (fun x => l.length - x.1) _ (fun x => ⟨[(0,.lst false 0 (frs false l)),(1,.int .i64 x.2),(5,.int .i64 x.1)],[],2⟩) _ ?_
 rintro ⟨i,a⟩ hi ih s hs
 simp only at hi
 refine loop_s cd40 rfl rfl hs ?_
 refine wa_ (wa_ (wc_region (w_ (m_ (h:=w_ (m_ (h:=w_ (le (h:=w_ (b_ (h:=wo_nil (e_ (h:=aft_normal (?_))))))))))))))
 refine c_ (h1:=?_) (h2:=?_)
 rotate_right 1
 focus
  intro c1
  first
  | exact dn c1
  | (
   have d1 := c1;try simp at d1
   obtain ⟨hi1,hi2,hi3⟩ := hi;have : i = l.length := (by omega);subst this
   refine wc_exit (?_)
   )
 rotate_right 1
 focus
  intro c1
  first
  | exact dn c1
  | (
   have d1 := c1;try simp at d1
   obtain ⟨hi1,hi2,hi3⟩ := hi;have hw := wrap_succ (i:=i) (by have := hl.1;omega);obtain ⟨d,hx,e1,g1⟩ := frs_cut (l:=l) (i:=i) (t:=false) (by omega);have hd := hl.2 d (List.mem_of_getElem? hx)
   refine wc_skip (?_)
   )
 all_goals first
 | refine aft_exit ?_
 | (
  refine aft_normal ?_
  refine wa_ (wc_block (wa_ (wc_region (w_ (m_ (h:=w_ (m_ (h:=w_ (x_ (h:=w_ (l_ (h:=w_ (m_ (h:=w_ (ca (hc:=sz_Fr d a hd (by omega) (by omega)) (h:=w_ (a_ (h:=wo_nil (e_ (h:=aft_normal (wa_ (wc_region (w_ (m_ (h:=w_ (b_ (h:=wo_nil (e_ (h:=aft_normal (?_))))))))))))))))))))))))))))))
  refine c_ (h1:=?_) (h2:=?_)
  rotate_right 1
  focus
   intro c2
   first
   | exact dn c2
   | (
    have d2 := c2;try simp at d2
    refine wc_skip (?_)
    )
  rotate_right 1
  focus
   intro c2
   first
   | exact dn c2
   | (
    have d2 := c2;try simp at d2
    refine wa_ (wc_region (w_ (a_ (h:=wo_nil (e_ (h:=aft_normal (wc_ret (?_))))))))
    )
  all_goals first | refine blk_normal ?_ | refine blk_ret ?_
  all_goals first
  | refine aft_ret ?_
  | (
   refine aft_normal ?_
   refine wc_region (w_ (m_ (h:=w_ (b_ (h:=w_ (a_ (h:=wo_nil (e_ (h:=?_)))))))))
   )
  )
 all_goals first
 | (refine (ih ((i + 1,szI (w_Fr d) a)) (⟨by simp;omega,by simp;omega,by have := szI_le0 (n:=w_Fr d) (a:=a) (by omega);simp;omega⟩) ?_ _ ?_).trans ?_;(focus (first | omega | (simp;done) | (simp;omega)));(focus (simp [normE,hw];done));(focus (simp only [e1,wS_cons];rw [szI_seq (by omega)])))
 | (apply end_leaf (ex:=Ext.ret) 2 (some [1,4]);(focus (simp [normE];rfl));(focus (simp only [e1,wS_cons];rw [szI_stop (by omega) (by omega)];simp;have := szI_neg (c:=w_Fr d) (a:=a) (by omega);simp [this])))
 | (apply end_leaf (ex:=(Ext.exit 0)) 2 (some [1,4]);(focus (simp [normE];rfl));(focus (have e0 : szI 0 a = a := (by unfold szI;rw [if_neg (by omega)];simp);simp [e0,hi2])))
theorem sz_Frs (l : List Fr) (a : Int) (hb : bg_Frs l) (ha : 0 ≤ a) (hc : a < 2000000) : oc.call 40 [.lst false 0 (frs false l),.int .i64 a] = some (.int .i64 (szI (w_Frs l) a),[]) := by
 refine fun_s rfl cd40 rfl rfl rfl (by simp;rfl) (by simp;rfl) ?_
 have hb1 := hb.1
 have hw : IntKind.i64.wrap (a - l.length) = a - l.length := wrap_id (by omega) (by omega)
 refine wa_ (wc_region (w_ (a_ (h:=wo_nil (e_ (h:=aft_normal (wa_ (wc_region (w_ (m_ (h:=w_ (m_ (h:=w_ (le (h:=w_ (b_ (h:=w_ (a_ (h:=wo_nil (e_ (h:=aft_normal (wa_ (wa_ (wc_region (w_ (m_ (h:=w_ (b_ (h:=wo_nil (e_ (h:=aft_normal (?_))))))))))))))))))))))))))))))))
 refine c_ (h1:=?_) (h2:=?_)
 rotate_right 1
 focus
  intro c1
  first
  | exact dn c1
  | (
   have d1 := c1;try simp at d1
   simp only [hw] at d1;have e1 : szI l.length a = a - l.length := (by unfold szI;rw [if_neg (by omega)])
   refine wc_skip (?_)
   )
 rotate_right 1
 focus
  intro c1
  first
  | exact dn c1
  | (
   have d1 := c1;try simp at d1
   refine wa_ (wc_region (w_ (a_ (h:=wo_nil (e_ (h:=aft_normal (wc_ret (?_))))))))
   )
 all_goals first
 | refine aft_ret ?_
 | (
  refine aft_normal ?_
  refine wa_ (wa_ (wc_region (w_ (a_ (h:=wo_nil (e_ (h:=aft_normal (wc_block (?_)))))))))
  refine wc_loopI (l_sz_Frs l hb (0,a - l.length) ⟨by simp,by simp;omega,by simp;omega⟩ _ (by simp [normE,hw])) ?_ ?_
  rotate_right 1
  focus
   intro c2
   first
   | exact dn c2
   | (
    have d2 := c2;try simp at d2
    skip
    )
  rotate_right 1
  focus
   intro c2
   first
   | exact dn c2
   | (
    have d2 := c2;try simp at d2
    skip
    )
  all_goals first | refine blk_ret ?_ | refine blk_exit ?_
  all_goals first
  | refine aft_ret ?_
  | (
   refine aft_normal ?_
   refine wa_ (wc_region (w_ (m_ (h:=w_ (a_ (h:=wo_nil (e_ (h:=aft_normal (wc_ret (?_))))))))))
   )
  )
 all_goals (refine fin_ (hr:=(res_tmp rfl res_nil)) (h:=?_);(focus (simp [w_Frs,szI,hw] at *;grind)))
theorem to_Fr (x : Fr) (h : w_Fr x < 2000000) : oc.call 77 [x.v false] = some (x.v true,[]) := by
 refine fun_s rfl cd77 rfl rfl rfl (by simp;rfl) (by simp;rfl) ?_
 unfold w_Fr at h
 refine wa_ (wc_region (w_ (bx (h:=w_ (al (h:=wo_nil (e_ (h:=aft_normal (wa_ (wc_region (w_ (al (h:=wo_nil (e_ (h:=aft_normal (wa_ (wc_region (w_ (f_ (h:=w_ (l_ (h:=w_ (f_ (h:=w0 (s_ (h:=wo_nil (e_ (h:=aft_normal (wa_ (wc_region (w_ (f_ (h:=w_ (l_ (h:=w_ (f_ (h:=w0 (s_ (h:=wo_nil (e_ (h:=aft_normal (wa_ (wc_region (w_ (f_ (h:=?_))))))))))))))))))))))))))))))))))))))))))))))
 refine w_ (l_ (h:=w_ (f_ (h:=w0 (s_ (h:=wo_nil (e_ (h:=aft_normal (wa_ (wc_region (w_ (f_ (h:=w_ (l_ (h:=w_ (f_ (h:=w0 (s_ (h:=wo_nil (e_ (h:=aft_normal (wa_ (wc_region (w_ (f_ (h:=w_ (l_ (h:=w_ (ca (hc:=to_Ets x.set (by omega)) (h:=w_ (f_ (h:=w0 (s_ (h:=wo_nil (e_ (h:=aft_normal (wa_ (wc_region (w_ (f_ (h:=w_ (l_ (h:=w_ (ca (hc:=to_Cts x.news (by omega)) (h:=w_ (f_ (h:=w0 (s_ (h:=wo_nil (e_ (h:=?_)))))))))))))))))))))))))))))))))))))))))))))))))))
 refine aft_normal (wa_ (wc_region (w_ (l_ (h:=w0 (s_ (h:=wo_nil (e_ (h:=aft_normal (wc_ret (?_)))))))))))
 all_goals (refine fin_ (hr:=(res_cell (tys_ok.zero _ _ rfl) rfl (by simp;rfl) (by rfl) res_nil)) (h:=?_);(focus (simp [Fr.v])))
theorem l_to_Frs (l : List Fr) (h : w_Frs l < 2000000) : ∀ x : Nat × (List Fr),(x.1 ≤ l.length ∧ x.2.length = l.length ∧ x.2.take x.1 = l.take x.1) → ∀ s,normE 1 (some [0,3,4]) s = ⟨[(0,.lst false 0 (frs false l)),(3,.ref 1 0 l.length),(4,.int .i64 x.1)],[(1,⟨false,false,6,frs true x.2,0⟩)],2⟩ →
 oc.loop 46 3 s = some (.exit 0,⟨[(3,.ref 1 0 l.length)],[(1,⟨false,false,6,frs true l,0⟩)],2⟩) := by
 refine loop_ind (σ:=Nat × (List Fr)) (fun x => l.length - x.1) _ (fun x => ⟨[(0,.lst false 0 (frs false l)),(3,.ref 1 0 l.length),(4,.int .i64 x.1)],[(1,⟨false,false,6,frs true x.2,0⟩)],2⟩) _ ?_
 rintro ⟨i,r⟩ hi ih s hs
 simp only at hi
 refine loop_s cd46 rfl rfl hs ?_
 obtain ⟨hi1,hi2,hi3⟩ := hi
 have hlen := w_Frs_len (l:=l)
 refine wa_ (wa_ (wc_region (w_ (m_ (h:=w_ (m_ (h:=w_ (le (h:=w_ (b_ (h:=wo_nil (e_ (h:=aft_normal (?_))))))))))))))
 refine c_ (h1:=?_) (h2:=?_)
 rotate_right 1
 focus
  intro c1
  simp at c1;have : i = l.length := (by omega);subst this;rw [← hi2] at hi3;simp at hi3;rw [hi2] at hi3;simp at hi3;subst hi3
  refine wc_exit (?_)
 rotate_right 1
 focus
  intro c1
  simp at c1;have hw := wrap_succ (i:=i) (by omega);obtain ⟨d,hx,d1,g1⟩ := frs_cut (t:=false) c1;have hd := w_Frs_mem (List.mem_of_getElem? hx);obtain ⟨y,hy,_,g2⟩ := frs_cut (t:=true) (l:=r) (i:=i) (by omega);simp at g2
  refine wc_skip (?_)
 all_goals first
 | refine aft_exit ?_
 | (
  refine aft_normal ?_
  refine wa_ (wc_block (wc_region (w_ (m_ (h:=w_ (m_ (h:=w_ (m_ (h:=w_ (m_ (h:=w_ (x_ (h:=w_ (l_ (h:=w_ (ca (hc:=to_Fr d (by omega)) (h:=w_ (x_ (h:=w0 (s_ (h:=wo_nil (e_ (h:=blk_normal (aft_normal (wc_region (w_ (m_ (h:=w_ (b_ (h:=w_ (a_ (h:=wo_nil (e_ (h:=?_))))))))))))))))))))))))))))))))))
  )
 all_goals first
 | (refine (ih ((i + 1,r.set i d)) (⟨by simp;omega,by simpa using hi2,set_take hi3 hi2 hx⟩) ?_ _ ?_).trans ?_;(focus (first | omega | (simp;done) | (simp;omega)));(focus (simp [normE,hw];done));(focus (rfl)))
 | (apply end_leaf (ex:=(Ext.exit 0)) 1 (some [3]);(focus (simp [normE];rfl));(focus (simp)))
theorem to_Frs (l : List Fr) (h : w_Frs l < 2000000) : oc.call 46 [.lst false 0 (frs false l)] = some (.lst true 6 (frs true l),[]) := by
 refine fun_s rfl cd46 rfl rfl rfl (by simp;rfl) (by simp;rfl) ?_
 have hlen := w_Frs_len (l:=l)
 refine wa_ (wc_region (w_ (aN (h:=wo_nil (e_ (h:=aft_normal (wa_ (wc_region (w_ (m_ (h:=w_ (le (h:=w_ (mk (h:=w_ (a_ (h:=wo_nil (e_ (h:=aft_normal (wa_ (wa_ (wc_region (w_ (a_ (h:=wo_nil (e_ (h:=aft_normal (wc_block (?_)))))))))))))))))))))))))))))
 refine wc_loop (l_to_Frs l h (0,List.replicate l.length ⟨0,0,0,0,[],[]⟩) (by simp) _ (by simp [normE,frs_zero])) ?_
 refine blk_exit (aft_normal (wa_ (wc_region (w_ (m_ (h:=w_ (a_ (h:=wo_nil (e_ (h:=aft_normal (wc_ret (?_))))))))))))
 all_goals (refine fin_ (hr:=(res_tmp rfl res_nil)) (h:=?_);(focus (first | (simp_all;done) | (simp_all <;> omega) | (simp_all <;> split <;> simp_all <;> omega))))
theorem eq_Fr (x y : Fr) (h : w_Fr x < 2000000) (h2 : w_Fr y < 2000000) : oc.call 93 [x.v false,y.v false] = some (.bool (decide (x = y)),[]) := by
 refine fun_s rfl cd93 rfl rfl rfl (by simp;rfl) (by simp;rfl) ?_
 unfold w_Fr at h h2
 refine wa_ (wc_region (w_ (bx (h:=w_ (bx (h:=w_ (a_ (h:=wo_nil (e_ (h:=aft_normal (wa_ (wa_ (wc_region (w_ (f_ (h:=w_ (l_ (h:=w_ (f_ (h:=w_ (l_ (h:=w_ (bE (h:=wo_nil (e_ (h:=aft_normal (?_)))))))))))))))))))))))))))
 refine c_ (h1:=?_) (h2:=?_)
 rotate_right 1
 focus
  intro c1
  refine wc_skip (?_)
 rotate_right 1
 focus
  intro c1
  refine wa_ (wc_region (w_ (a_ (h:=wo_nil (e_ (h:=aft_normal (wc_ret (?_))))))))
 all_goals first
 | refine aft_ret ?_
 | (
  refine aft_normal ?_
  refine wa_ (wa_ (wc_region (w_ (f_ (h:=w_ (l_ (h:=w_ (f_ (h:=w_ (l_ (h:=w_ (bE (h:=wo_nil (e_ (h:=aft_normal (?_))))))))))))))))
  refine c_ (h1:=?_) (h2:=?_)
  rotate_right 1
  focus
   intro c2
   refine wc_skip (?_)
  rotate_right 1
  focus
   intro c2
   refine wa_ (wc_region (w_ (a_ (h:=wo_nil (e_ (h:=aft_normal (wc_ret (?_))))))))
  all_goals first
  | refine aft_ret ?_
  | (
   refine aft_normal ?_
   refine wa_ (wa_ (wc_region (w_ (f_ (h:=w_ (l_ (h:=w_ (f_ (h:=w_ (l_ (h:=w_ (bE (h:=wo_nil (e_ (h:=aft_normal (?_))))))))))))))))
   refine c_ (h1:=?_) (h2:=?_)
   rotate_right 1
   focus
    intro c3
    refine wc_skip (?_)
   rotate_right 1
   focus
    intro c3
    refine wa_ (wc_region (w_ (a_ (h:=wo_nil (e_ (h:=aft_normal (wc_ret (?_))))))))
   all_goals first
   | refine aft_ret ?_
   | (
    refine aft_normal ?_
    refine wa_ (wa_ (wc_region (w_ (f_ (h:=w_ (l_ (h:=w_ (f_ (h:=w_ (l_ (h:=w_ (bE (h:=wo_nil (e_ (h:=aft_normal (?_))))))))))))))))
    refine c_ (h1:=?_) (h2:=?_)
    rotate_right 1
    focus
     intro c4
     refine wc_skip (?_)
    rotate_right 1
    focus
     intro c4
     refine wa_ (wc_region (w_ (a_ (h:=wo_nil (e_ (h:=aft_normal (wc_ret (?_))))))))
    all_goals first
    | refine aft_ret ?_
    | (
     refine aft_normal ?_
     refine wa_ (wa_ (wc_region (w_ (f_ (h:=w_ (l_ (h:=w_ (f_ (h:=w_ (l_ (h:=w_ (ca (hc:=eq_Ets x.set y.set (by omega) (by omega)) (h:=w_ (u_ (h:=wo_nil (e_ (h:=aft_normal (?_))))))))))))))))))
     refine c_ (h1:=?_) (h2:=?_)
     rotate_right 1
     focus
      intro c5
      refine wc_skip (?_)
     rotate_right 1
     focus
      intro c5
      refine wa_ (wc_region (w_ (a_ (h:=wo_nil (e_ (h:=aft_normal (wc_ret (?_))))))))
     all_goals first
     | refine aft_ret ?_
     | (
      refine aft_normal ?_
      refine wa_ (wa_ (wc_region (w_ (f_ (h:=w_ (l_ (h:=w_ (f_ (h:=w_ (l_ (h:=w_ (ca (hc:=eq_Cts x.news y.news (by omega) (by omega)) (h:=w_ (u_ (h:=wo_nil (e_ (h:=aft_normal (?_))))))))))))))))))
      refine c_ (h1:=?_) (h2:=?_)
      rotate_right 1
      focus
       intro c6
       refine wc_skip (?_)
      rotate_right 1
      focus
       intro c6
       refine wa_ (wc_region (w_ (a_ (h:=wo_nil (e_ (h:=aft_normal (wc_ret (?_))))))))
      all_goals first
      | refine aft_ret ?_
      | (
       refine aft_normal ?_
       refine wa_ (wc_region (w_ (a_ (h:=wo_nil (e_ (h:=aft_normal (wc_ret (?_))))))))
       )
      )
     )
    )
   )
  )
 all_goals (refine fin_ (hr:=(res_tmp rfl res_nil)) (h:=?_);(focus (first | (simp_all [Fr.eq_iff];done) | (simp [Fr.eq_iff] at *;grind))))
theorem l_eq_Frs (l m : List Fr) (h : w_Frs l < 2000000) (h2 : w_Frs m < 2000000) (hlm : l.length = m.length) : ∀ i : Nat,(i ≤ l.length) → ∀ s,normE 2 (some [0,1,5]) s = ⟨[(0,.lst false 0 (frs false l)),(1,.lst false 0 (frs false m)),(5,.int .i64 i)],[],2⟩ →
 oc.loop 58 4 s = some (if l.drop i = m.drop i then (.exit 0,⟨[],[],2⟩) else (.ret,⟨[(4,.bool false)],[],2⟩)) := by
 refine loop_ind (σ:=Nat) (fun i => l.length - i) _ (fun i => ⟨[(0,.lst false 0 (frs false l)),(1,.lst false 0 (frs false m)),(5,.int .i64 i)],[],2⟩) _ ?_
 intro i hi ih s hs
 refine loop_s cd58 rfl rfl hs ?_
 have hl1 := w_Frs_len (l:=l)
 refine wa_ (wa_ (wc_region (w_ (m_ (h:=w_ (m_ (h:=w_ (le (h:=w_ (b_ (h:=wo_nil (e_ (h:=aft_normal (?_))))))))))))))
 refine c_ (h1:=?_) (h2:=?_)
 rotate_right 1
 focus
  intro c1
  simp at c1;have : i = l.length := (by omega);subst this
  refine wc_exit (?_)
 rotate_right 1
 focus
  intro c1
  simp at c1;have hw := wrap_succ (i:=i) (by omega);obtain ⟨x,hx,d1,g1⟩ := frs_cut (t:=false) c1;obtain ⟨y,hy,d2,g2⟩ := frs_cut (t:=false) (l:=m) (i:=i) (by omega);have m1 := w_Frs_mem (List.mem_of_getElem? hx);have m2 := w_Frs_mem (List.mem_of_getElem? hy)
  refine wc_skip (?_)
 all_goals first
 | refine aft_exit ?_
 | (
  refine aft_normal ?_
  refine wa_ (wc_block (wa_ (wc_draw (y_ (m_ (h:=ax_ (h:=y_ (m_ (h:=ax_ (h:=y_ (x_ (h:=ax_ (h:=y_ (l_ (h:=ax_ (h:=y_ (m_ (h:=ax_ (h:=y_ (m_ (h:=ax_ (h:=y_ (x_ (h:=ax_ (h:=y_ (l_ (h:=ax_ (h:=y_ (ca (hc:=eq_Fr x y (by omega) (by omega)) (h:=ax_ (h:=y_ (u_ (h:=ax_ (h:=wo_nil (ed (h:=aft_normal (?_)))))))))))))))))))))))))))))))))))))
  refine c_ (h1:=?_) (h2:=?_)
  rotate_right 1
  focus
   intro c2
   refine wc_skip (?_)
  rotate_right 1
  focus
   intro c2
   refine wa_ (wc_region (w_ (a_ (h:=wo_nil (e_ (h:=aft_normal (wc_ret (?_))))))))
  all_goals first | refine blk_normal ?_ | refine blk_ret ?_
  all_goals first
  | refine aft_ret ?_
  | (
   refine aft_normal ?_
   refine wc_region (w_ (m_ (h:=w_ (b_ (h:=w_ (a_ (h:=wo_nil (e_ (h:=?_)))))))))
   )
  )
 all_goals first
 | (refine (ih (i + 1) (by omega) ?_ _ ?_).trans ?_;(focus (first | omega | (simp;done) | (simp;omega)));(focus (simp [normE,hw];done));(focus (simp at c2;rw [d1,d2];simp [c2])))
 | (apply end_leaf (ex:=Ext.ret) 2 (some [4]);(focus (simp [normE];rfl));(focus (simp at c2;rw [d1,d2];simp [c2])))
 | (apply end_leaf (ex:=(Ext.exit 0)) 2 (some [4]);(focus (simp [normE];rfl));(focus (rw [if_pos (by simp [hlm])])))
theorem eq_Frs (l m : List Fr) (h : w_Frs l < 2000000) (h2 : w_Frs m < 2000000) : oc.call 58 [.lst false 0 (frs false l),.lst false 0 (frs false m)] = some (.bool (decide (l = m)),[]) := by
 refine fun_s rfl cd58 rfl rfl rfl (by simp;rfl) (by simp;rfl) ?_
 refine wa_ (wc_region (w_ (a_ (h:=wo_nil (e_ (h:=aft_normal (wa_ (wa_ (wc_region (w_ (m_ (h:=w_ (le (h:=w_ (m_ (h:=w_ (le (h:=w_ (bE (h:=wo_nil (e_ (h:=aft_normal (?_)))))))))))))))))))))))
 refine c_ (h1:=?_) (h2:=?_)
 rotate_right 1
 focus
  intro c1
  simp at c1
  refine wc_skip (?_)
 rotate_right 1
 focus
  intro c1
  simp at c1;have hne : l ≠ m := (by rintro rfl;exact c1 rfl)
  refine wa_ (wc_region (w_ (a_ (h:=wo_nil (e_ (h:=aft_normal (wc_ret (?_))))))))
 all_goals first
 | refine aft_ret ?_
 | (
  refine aft_normal ?_
  refine wa_ (wa_ (wc_region (w_ (a_ (h:=wo_nil (e_ (h:=aft_normal (wc_block (?_)))))))))
  refine wc_loopI (l_eq_Frs l m h h2 (by omega) 0 (by omega) _ (by simp [normE])) ?_ ?_
  rotate_right 1
  focus
   intro c2
   skip
  rotate_right 1
  focus
   intro c2
   skip
  all_goals first | refine blk_ret ?_ | refine blk_exit ?_
  all_goals first
  | refine aft_ret ?_
  | (
   refine aft_normal ?_
   refine wa_ (wc_region (w_ (a_ (h:=wo_nil (e_ (h:=aft_normal (wc_ret (?_))))))))
   )
  )
 all_goals (refine fin_ (hr:=(res_tmp rfl res_nil)) (h:=?_);(focus (first | (simp_all;done) | (simp_all <;> omega) | (simp_all <;> split <;> simp_all <;> omega))))
def w_Bt (x : Bt) : Nat := w_Ets x.set
def bg_Bt (x : Bt) : Prop := bg_Ets x.set
def w_Bts (l : List Bt) : Nat := l.length + wS w_Bt l
def bg_Bts (l : List Bt) : Prop := l.length ≤ 140737488351232 ∧ ∀ x ∈ l,bg_Bt x
theorem w_Bts_mem {l : List Bt} {x : Bt} (h : x ∈ l) : l.length + w_Bt x ≤ w_Bts l := by
  have := wS_mem (f:=w_Bt) h;unfold w_Bts;omega
theorem w_Bts_len {l : List Bt} : l.length ≤ w_Bts l := by unfold w_Bts;omega
theorem sz_Bt (x : Bt) (a : Int) (hb : bg_Bt x) (ha : 0 ≤ a) (hc : a < 2000000) : oc.call 141 [x.v false,.int .i64 a] = some (.int .i64 (szI (w_Bt x) a),[]) := by
 refine fun_s rfl cd141 rfl rfl rfl (by simp;rfl) (by simp;rfl) ?_
 unfold bg_Bt at hb
 refine wa_ (wc_region (w_ (bx (h:=w_ (a_ (h:=wo_nil (e_ (h:=aft_normal (wa_ (wc_region (w_ (f_ (h:=w_ (l_ (h:=w_ (m_ (h:=w_ (ca (hc:=sz_Ets x.set (a) hb (by omega) (by omega)) (h:=w_ (a_ (h:=wo_nil (e_ (h:=aft_normal (wa_ (wa_ (wc_region (w_ (m_ (h:=w_ (b_ (h:=wo_nil (e_ (h:=aft_normal (?_))))))))))))))))))))))))))))))))))
 refine c_ (h1:=?_) (h2:=?_)
 rotate_right 1
 focus
  intro c1
  first
  | exact dn c1
  | (
   have d1 := c1;try simp at d1
   have e1 := szI_pos (n:=w_Ets x.set) (a:=a) (by omega)
   refine wc_skip (?_)
   )
 rotate_right 1
 focus
  intro c1
  first
  | exact dn c1
  | (
   have d1 := c1;try simp at d1
   refine wa_ (wc_region (w_ (a_ (h:=wo_nil (e_ (h:=aft_normal (wc_ret (?_))))))))
   )
 all_goals first
 | refine aft_ret ?_
 | (
  refine aft_normal ?_
  refine wa_ (wc_region (w_ (m_ (h:=w_ (a_ (h:=wo_nil (e_ (h:=aft_normal (wc_ret (?_))))))))))
  )
 all_goals (refine fin_ (hr:=(res_tmp rfl res_nil)) (h:=?_);(focus (simp [w_Bt,szI] at *;grind)))
theorem l_sz_Bts (l : List Bt) (hl : bg_Bts l) : ∀ x : Nat × Int,(x.1 ≤ l.length ∧ 0 ≤ x.2 ∧ x.2 < 2000000) → ∀ s,normE 2 (some [0,1,5]) s = ⟨[(0,.lst false 0 (bts false l)),(1,.int .i64 x.2),(5,.int .i64 x.1)],[],2⟩ →
 oc.loop 124 5 s = some (if 0 ≤ szI (wS w_Bt (l.drop x.1)) x.2 then (.exit 0,⟨[(1,.int .i64 (szI (wS w_Bt (l.drop x.1)) x.2))],[],2⟩) else (.ret,⟨[(1,.int .i64 (-1)),(4,.int .i64 (-1))],[],2⟩)) := by
 refine loop_ind (σ:=Nat × Int) (fun x => l.length - x.1) _ (fun x => ⟨[(0,.lst false 0 (bts false l)),(1,.int .i64 x.2),(5,.int .i64 x.1)],[],2⟩) _ ?_
 rintro ⟨i,a⟩ hi ih s hs
 simp only at hi
 refine loop_s cd124 rfl rfl hs ?_
 refine wa_ (wa_ (wc_region (w_ (m_ (h:=w_ (m_ (h:=w_ (le (h:=w_ (b_ (h:=wo_nil (e_ (h:=aft_normal (?_))))))))))))))
 refine c_ (h1:=?_) (h2:=?_)
 rotate_right 1
 focus
  intro c1
  first
  | exact dn c1
  | (
   have d1 := c1;try simp at d1
   obtain ⟨hi1,hi2,hi3⟩ := hi;have : i = l.length := (by omega);subst this
   refine wc_exit (?_)
   )
 rotate_right 1
 focus
  intro c1
  first
  | exact dn c1
  | (
   have d1 := c1;try simp at d1
   obtain ⟨hi1,hi2,hi3⟩ := hi;have hw := wrap_succ (i:=i) (by have := hl.1;omega);obtain ⟨d,hx,e1,g1⟩ := bts_cut (l:=l) (i:=i) (t:=false) (by omega);have hd := hl.2 d (List.mem_of_getElem? hx)
   refine wc_skip (?_)
   )
 all_goals first
 | refine aft_exit ?_
 | (
  refine aft_normal ?_
  refine wa_ (wc_block (wa_ (wc_region (w_ (m_ (h:=w_ (m_ (h:=w_ (x_ (h:=w_ (l_ (h:=w_ (m_ (h:=w_ (ca (hc:=sz_Bt d a hd (by omega) (by omega)) (h:=w_ (a_ (h:=wo_nil (e_ (h:=aft_normal (wa_ (wc_region (w_ (m_ (h:=w_ (b_ (h:=wo_nil (e_ (h:=aft_normal (?_))))))))))))))))))))))))))))))
  refine c_ (h1:=?_) (h2:=?_)
  rotate_right 1
  focus
   intro c2
   first
   | exact dn c2
   | (
    have d2 := c2;try simp at d2
    refine wc_skip (?_)
    )
  rotate_right 1
  focus
   intro c2
   first
   | exact dn c2
   | (
    have d2 := c2;try simp at d2
    refine wa_ (wc_region (w_ (a_ (h:=wo_nil (e_ (h:=aft_normal (wc_ret (?_))))))))
    )
  all_goals first | refine blk_normal ?_ | refine blk_ret ?_
  all_goals first
  | refine aft_ret ?_
  | (
   refine aft_normal ?_
   refine wc_region (w_ (m_ (h:=w_ (b_ (h:=w_ (a_ (h:=wo_nil (e_ (h:=?_)))))))))
   )
  )
 all_goals first
 | (refine (ih ((i + 1,szI (w_Bt d) a)) (⟨by simp;omega,by simp;omega,by have := szI_le0 (n:=w_Bt d) (a:=a) (by omega);simp;omega⟩) ?_ _ ?_).trans ?_;(focus (first | omega | (simp;done) | (simp;omega)));(focus (simp [normE,hw];done));(focus (simp only [e1,wS_cons];rw [szI_seq (by omega)])))
 | (apply end_leaf (ex:=Ext.ret) 2 (some [1,4]);(focus (simp [normE];rfl));(focus (simp only [e1,wS_cons];rw [szI_stop (by omega) (by omega)];simp;have := szI_neg (c:=w_Bt d) (a:=a) (by omega);simp [this])))
 | (apply end_leaf (ex:=(Ext.exit 0)) 2 (some [1,4]);(focus (simp [normE];rfl));(focus (have e0 : szI 0 a = a := (by unfold szI;rw [if_neg (by omega)];simp);simp [e0,hi2])))
theorem sz_Bts (l : List Bt) (a : Int) (hb : bg_Bts l) (ha : 0 ≤ a) (hc : a < 2000000) : oc.call 124 [.lst false 0 (bts false l),.int .i64 a] = some (.int .i64 (szI (w_Bts l) a),[]) := by
 refine fun_s rfl cd124 rfl rfl rfl (by simp;rfl) (by simp;rfl) ?_
 have hb1 := hb.1
 have hw : IntKind.i64.wrap (a - l.length) = a - l.length := wrap_id (by omega) (by omega)
 refine wa_ (wc_region (w_ (a_ (h:=wo_nil (e_ (h:=aft_normal (wa_ (wc_region (w_ (m_ (h:=w_ (m_ (h:=w_ (le (h:=w_ (b_ (h:=w_ (a_ (h:=wo_nil (e_ (h:=aft_normal (wa_ (wa_ (wc_region (w_ (m_ (h:=w_ (b_ (h:=wo_nil (e_ (h:=aft_normal (?_))))))))))))))))))))))))))))))))
 refine c_ (h1:=?_) (h2:=?_)
 rotate_right 1
 focus
  intro c1
  first
  | exact dn c1
  | (
   have d1 := c1;try simp at d1
   simp only [hw] at d1;have e1 : szI l.length a = a - l.length := (by unfold szI;rw [if_neg (by omega)])
   refine wc_skip (?_)
   )
 rotate_right 1
 focus
  intro c1
  first
  | exact dn c1
  | (
   have d1 := c1;try simp at d1
   refine wa_ (wc_region (w_ (a_ (h:=wo_nil (e_ (h:=aft_normal (wc_ret (?_))))))))
   )
 all_goals first
 | refine aft_ret ?_
 | (
  refine aft_normal ?_
  refine wa_ (wa_ (wc_region (w_ (a_ (h:=wo_nil (e_ (h:=aft_normal (wc_block (?_)))))))))
  refine wc_loopI (l_sz_Bts l hb (0,a - l.length) ⟨by simp,by simp;omega,by simp;omega⟩ _ (by simp [normE,hw])) ?_ ?_
  rotate_right 1
  focus
   intro c2
   first
   | exact dn c2
   | (
    have d2 := c2;try simp at d2
    skip
    )
  rotate_right 1
  focus
   intro c2
   first
   | exact dn c2
   | (
    have d2 := c2;try simp at d2
    skip
    )
  all_goals first | refine blk_ret ?_ | refine blk_exit ?_
  all_goals first
  | refine aft_ret ?_
  | (
   refine aft_normal ?_
   refine wa_ (wc_region (w_ (m_ (h:=w_ (a_ (h:=wo_nil (e_ (h:=aft_normal (wc_ret (?_))))))))))
   )
  )
 all_goals (refine fin_ (hr:=(res_tmp rfl res_nil)) (h:=?_);(focus (simp [w_Bts,szI,hw] at *;grind)))
theorem to_Bt (x : Bt) (h : w_Bt x < 2000000) : oc.call 144 [x.v false] = some (x.v true,[]) := by
 refine fun_s rfl cd144 rfl rfl rfl (by simp;rfl) (by simp;rfl) ?_
 unfold w_Bt at h
 refine wa_ (wc_region (w_ (bx (h:=w_ (al (h:=wo_nil (e_ (h:=aft_normal (wa_ (wc_region (w_ (al (h:=wo_nil (e_ (h:=aft_normal (wa_ (wc_region (w_ (f_ (h:=w_ (l_ (h:=w_ (f_ (h:=w0 (s_ (h:=wo_nil (e_ (h:=aft_normal (wa_ (wc_region (w_ (f_ (h:=w_ (l_ (h:=w_ (f_ (h:=w0 (s_ (h:=wo_nil (e_ (h:=aft_normal (wa_ (wc_region (w_ (f_ (h:=?_))))))))))))))))))))))))))))))))))))))))))))))
 refine w_ (l_ (h:=w_ (ca (hc:=to_Ets x.set (by omega)) (h:=w_ (f_ (h:=w0 (s_ (h:=wo_nil (e_ (h:=aft_normal (wa_ (wc_region (w_ (l_ (h:=w0 (s_ (h:=wo_nil (e_ (h:=aft_normal (wc_ret (?_)))))))))))))))))))))
 all_goals (refine fin_ (hr:=(res_cell (tys_ok.zero _ _ rfl) rfl (by simp;rfl) (by rfl) res_nil)) (h:=?_);(focus (simp [Bt.v])))
theorem l_to_Bts (l : List Bt) (h : w_Bts l < 2000000) : ∀ x : Nat × (List Bt),(x.1 ≤ l.length ∧ x.2.length = l.length ∧ x.2.take x.1 = l.take x.1) → ∀ s,normE 1 (some [0,3,4]) s = ⟨[(0,.lst false 0 (bts false l)),(3,.ref 1 0 l.length),(4,.int .i64 x.1)],[(1,⟨false,false,3,bts true x.2,0⟩)],2⟩ →
 oc.loop 130 3 s = some (.exit 0,⟨[(3,.ref 1 0 l.length)],[(1,⟨false,false,3,bts true l,0⟩)],2⟩) := by
 refine loop_ind (σ:=Nat × (List Bt)) (fun x => l.length - x.1) _ (fun x => ⟨[(0,.lst false 0 (bts false l)),(3,.ref 1 0 l.length),(4,.int .i64 x.1)],[(1,⟨false,false,3,bts true x.2,0⟩)],2⟩) _ ?_
 rintro ⟨i,r⟩ hi ih s hs
 simp only at hi
 refine loop_s cd130 rfl rfl hs ?_
 obtain ⟨hi1,hi2,hi3⟩ := hi
 have hlen := w_Bts_len (l:=l)
 refine wa_ (wa_ (wc_region (w_ (m_ (h:=w_ (m_ (h:=w_ (le (h:=w_ (b_ (h:=wo_nil (e_ (h:=aft_normal (?_))))))))))))))
 refine c_ (h1:=?_) (h2:=?_)
 rotate_right 1
 focus
  intro c1
  simp at c1;have : i = l.length := (by omega);subst this;rw [← hi2] at hi3;simp at hi3;rw [hi2] at hi3;simp at hi3;subst hi3
  refine wc_exit (?_)
 rotate_right 1
 focus
  intro c1
  simp at c1;have hw := wrap_succ (i:=i) (by omega);obtain ⟨d,hx,d1,g1⟩ := bts_cut (t:=false) c1;have hd := w_Bts_mem (List.mem_of_getElem? hx);obtain ⟨y,hy,_,g2⟩ := bts_cut (t:=true) (l:=r) (i:=i) (by omega);simp at g2
  refine wc_skip (?_)
 all_goals first
 | refine aft_exit ?_
 | (
  refine aft_normal ?_
  refine wa_ (wc_block (wc_region (w_ (m_ (h:=w_ (m_ (h:=w_ (m_ (h:=w_ (m_ (h:=w_ (x_ (h:=w_ (l_ (h:=w_ (ca (hc:=to_Bt d (by omega)) (h:=w_ (x_ (h:=w0 (s_ (h:=wo_nil (e_ (h:=blk_normal (aft_normal (wc_region (w_ (m_ (h:=w_ (b_ (h:=w_ (a_ (h:=wo_nil (e_ (h:=?_))))))))))))))))))))))))))))))))))
  )
 all_goals first
 | (refine (ih ((i + 1,r.set i d)) (⟨by simp;omega,by simpa using hi2,set_take hi3 hi2 hx⟩) ?_ _ ?_).trans ?_;(focus (first | omega | (simp;done) | (simp;omega)));(focus (simp [normE,hw];done));(focus (rfl)))
 | (apply end_leaf (ex:=(Ext.exit 0)) 1 (some [3]);(focus (simp [normE];rfl));(focus (simp)))
theorem to_Bts (l : List Bt) (h : w_Bts l < 2000000) : oc.call 130 [.lst false 0 (bts false l)] = some (.lst true 3 (bts true l),[]) := by
 refine fun_s rfl cd130 rfl rfl rfl (by simp;rfl) (by simp;rfl) ?_
 have hlen := w_Bts_len (l:=l)
 refine wa_ (wc_region (w_ (aN (h:=wo_nil (e_ (h:=aft_normal (wa_ (wc_region (w_ (m_ (h:=w_ (le (h:=w_ (mk (h:=w_ (a_ (h:=wo_nil (e_ (h:=aft_normal (wa_ (wa_ (wc_region (w_ (a_ (h:=wo_nil (e_ (h:=aft_normal (wc_block (?_)))))))))))))))))))))))))))))
 refine wc_loop (l_to_Bts l h (0,List.replicate l.length ⟨0,0,[]⟩) (by simp) _ (by simp [normE,bts_zero])) ?_
 refine blk_exit (aft_normal (wa_ (wc_region (w_ (m_ (h:=w_ (a_ (h:=wo_nil (e_ (h:=aft_normal (wc_ret (?_))))))))))))
 all_goals (refine fin_ (hr:=(res_tmp rfl res_nil)) (h:=?_);(focus (first | (simp_all;done) | (simp_all <;> omega) | (simp_all <;> split <;> simp_all <;> omega))))
theorem eq_Bt (x y : Bt) (h : w_Bt x < 2000000) (h2 : w_Bt y < 2000000) : oc.call 147 [x.v false,y.v false] = some (.bool (decide (x = y)),[]) := by
 refine fun_s rfl cd147 rfl rfl rfl (by simp;rfl) (by simp;rfl) ?_
 unfold w_Bt at h h2
 refine wa_ (wc_region (w_ (bx (h:=w_ (bx (h:=w_ (a_ (h:=wo_nil (e_ (h:=aft_normal (wa_ (wa_ (wc_region (w_ (f_ (h:=w_ (l_ (h:=w_ (f_ (h:=w_ (l_ (h:=w_ (bE (h:=wo_nil (e_ (h:=aft_normal (?_)))))))))))))))))))))))))))
 refine c_ (h1:=?_) (h2:=?_)
 rotate_right 1
 focus
  intro c1
  refine wc_skip (?_)
 rotate_right 1
 focus
  intro c1
  refine wa_ (wc_region (w_ (a_ (h:=wo_nil (e_ (h:=aft_normal (wc_ret (?_))))))))
 all_goals first
 | refine aft_ret ?_
 | (
  refine aft_normal ?_
  refine wa_ (wa_ (wc_region (w_ (f_ (h:=w_ (l_ (h:=w_ (f_ (h:=w_ (l_ (h:=w_ (bE (h:=wo_nil (e_ (h:=aft_normal (?_))))))))))))))))
  refine c_ (h1:=?_) (h2:=?_)
  rotate_right 1
  focus
   intro c2
   refine wc_skip (?_)
  rotate_right 1
  focus
   intro c2
   refine wa_ (wc_region (w_ (a_ (h:=wo_nil (e_ (h:=aft_normal (wc_ret (?_))))))))
  all_goals first
  | refine aft_ret ?_
  | (
   refine aft_normal ?_
   refine wa_ (wa_ (wc_region (w_ (f_ (h:=w_ (l_ (h:=w_ (f_ (h:=w_ (l_ (h:=w_ (ca (hc:=eq_Ets x.set y.set (by omega) (by omega)) (h:=w_ (u_ (h:=wo_nil (e_ (h:=aft_normal (?_))))))))))))))))))
   refine c_ (h1:=?_) (h2:=?_)
   rotate_right 1
   focus
    intro c3
    refine wc_skip (?_)
   rotate_right 1
   focus
    intro c3
    refine wa_ (wc_region (w_ (a_ (h:=wo_nil (e_ (h:=aft_normal (wc_ret (?_))))))))
   all_goals first
   | refine aft_ret ?_
   | (
    refine aft_normal ?_
    refine wa_ (wc_region (w_ (a_ (h:=wo_nil (e_ (h:=aft_normal (wc_ret (?_))))))))
    )
   )
  )
 all_goals (refine fin_ (hr:=(res_tmp rfl res_nil)) (h:=?_);(focus (first | (simp_all [Bt.eq_iff];done) | (simp [Bt.eq_iff] at *;grind))))
theorem l_eq_Bts (l m : List Bt) (h : w_Bts l < 2000000) (h2 : w_Bts m < 2000000) (hlm : l.length = m.length) : ∀ i : Nat,(i ≤ l.length) → ∀ s,normE 2 (some [0,1,5]) s = ⟨[(0,.lst false 0 (bts false l)),(1,.lst false 0 (bts false m)),(5,.int .i64 i)],[],2⟩ →
 oc.loop 139 4 s = some (if l.drop i = m.drop i then (.exit 0,⟨[],[],2⟩) else (.ret,⟨[(4,.bool false)],[],2⟩)) := by
 refine loop_ind (σ:=Nat) (fun i => l.length - i) _ (fun i => ⟨[(0,.lst false 0 (bts false l)),(1,.lst false 0 (bts false m)),(5,.int .i64 i)],[],2⟩) _ ?_
 intro i hi ih s hs
 refine loop_s cd139 rfl rfl hs ?_
 have hl1 := w_Bts_len (l:=l)
 refine wa_ (wa_ (wc_region (w_ (m_ (h:=w_ (m_ (h:=w_ (le (h:=w_ (b_ (h:=wo_nil (e_ (h:=aft_normal (?_))))))))))))))
 refine c_ (h1:=?_) (h2:=?_)
 rotate_right 1
 focus
  intro c1
  simp at c1;have : i = l.length := (by omega);subst this
  refine wc_exit (?_)
 rotate_right 1
 focus
  intro c1
  simp at c1;have hw := wrap_succ (i:=i) (by omega);obtain ⟨x,hx,d1,g1⟩ := bts_cut (t:=false) c1;obtain ⟨y,hy,d2,g2⟩ := bts_cut (t:=false) (l:=m) (i:=i) (by omega);have m1 := w_Bts_mem (List.mem_of_getElem? hx);have m2 := w_Bts_mem (List.mem_of_getElem? hy)
  refine wc_skip (?_)
 all_goals first
 | refine aft_exit ?_
 | (
  refine aft_normal ?_
  refine wa_ (wc_block (wa_ (wc_draw (y_ (m_ (h:=ax_ (h:=y_ (m_ (h:=ax_ (h:=y_ (x_ (h:=ax_ (h:=y_ (l_ (h:=ax_ (h:=y_ (m_ (h:=ax_ (h:=y_ (m_ (h:=ax_ (h:=y_ (x_ (h:=ax_ (h:=y_ (l_ (h:=ax_ (h:=y_ (ca (hc:=eq_Bt x y (by omega) (by omega)) (h:=ax_ (h:=y_ (u_ (h:=ax_ (h:=wo_nil (ed (h:=aft_normal (?_)))))))))))))))))))))))))))))))))))))
  refine c_ (h1:=?_) (h2:=?_)
  rotate_right 1
  focus
   intro c2
   refine wc_skip (?_)
  rotate_right 1
  focus
   intro c2
   refine wa_ (wc_region (w_ (a_ (h:=wo_nil (e_ (h:=aft_normal (wc_ret (?_))))))))
  all_goals first | refine blk_normal ?_ | refine blk_ret ?_
  all_goals first
  | refine aft_ret ?_
  | (
   refine aft_normal ?_
   refine wc_region (w_ (m_ (h:=w_ (b_ (h:=w_ (a_ (h:=wo_nil (e_ (h:=?_)))))))))
   )
  )
 all_goals first
 | (refine (ih (i + 1) (by omega) ?_ _ ?_).trans ?_;(focus (first | omega | (simp;done) | (simp;omega)));(focus (simp [normE,hw];done));(focus (simp at c2;rw [d1,d2];simp [c2])))
 | (apply end_leaf (ex:=Ext.ret) 2 (some [4]);(focus (simp [normE];rfl));(focus (simp at c2;rw [d1,d2];simp [c2])))
 | (apply end_leaf (ex:=(Ext.exit 0)) 2 (some [4]);(focus (simp [normE];rfl));(focus (rw [if_pos (by simp [hlm])])))
theorem eq_Bts (l m : List Bt) (h : w_Bts l < 2000000) (h2 : w_Bts m < 2000000) : oc.call 139 [.lst false 0 (bts false l),.lst false 0 (bts false m)] = some (.bool (decide (l = m)),[]) := by
 refine fun_s rfl cd139 rfl rfl rfl (by simp;rfl) (by simp;rfl) ?_
 refine wa_ (wc_region (w_ (a_ (h:=wo_nil (e_ (h:=aft_normal (wa_ (wa_ (wc_region (w_ (m_ (h:=w_ (le (h:=w_ (m_ (h:=w_ (le (h:=w_ (bE (h:=wo_nil (e_ (h:=aft_normal (?_)))))))))))))))))))))))
 refine c_ (h1:=?_) (h2:=?_)
 rotate_right 1
 focus
  intro c1
  simp at c1
  refine wc_skip (?_)
 rotate_right 1
 focus
  intro c1
  simp at c1;have hne : l ≠ m := (by rintro rfl;exact c1 rfl)
  refine wa_ (wc_region (w_ (a_ (h:=wo_nil (e_ (h:=aft_normal (wc_ret (?_))))))))
 all_goals first
 | refine aft_ret ?_
 | (
  refine aft_normal ?_
  refine wa_ (wa_ (wc_region (w_ (a_ (h:=wo_nil (e_ (h:=aft_normal (wc_block (?_)))))))))
  refine wc_loopI (l_eq_Bts l m h h2 (by omega) 0 (by omega) _ (by simp [normE])) ?_ ?_
  rotate_right 1
  focus
   intro c2
   skip
  rotate_right 1
  focus
   intro c2
   skip
  all_goals first | refine blk_ret ?_ | refine blk_exit ?_
  all_goals first
  | refine aft_ret ?_
  | (
   refine aft_normal ?_
   refine wa_ (wc_region (w_ (a_ (h:=wo_nil (e_ (h:=aft_normal (wc_ret (?_))))))))
   )
  )
 all_goals (refine fin_ (hr:=(res_tmp rfl res_nil)) (h:=?_);(focus (first | (simp_all;done) | (simp_all <;> omega) | (simp_all <;> split <;> simp_all <;> omega))))
def w_Hd (x : Hd) : Nat := w_Ets x.oldA + w_Ets x.oldB + w_Bts x.waits
def bg_Hd (x : Hd) : Prop := bg_Ets x.oldA ∧ bg_Ets x.oldB ∧ bg_Bts x.waits
def w_Hds (l : List Hd) : Nat := l.length + wS w_Hd l
def bg_Hds (l : List Hd) : Prop := l.length ≤ 140737488351232 ∧ ∀ x ∈ l,bg_Hd x
theorem w_Hds_mem {l : List Hd} {x : Hd} (h : x ∈ l) : l.length + w_Hd x ≤ w_Hds l := by
  have := wS_mem (f:=w_Hd) h;unfold w_Hds;omega
theorem w_Hds_len {l : List Hd} : l.length ≤ w_Hds l := by unfold w_Hds;omega
theorem sz_Hd (x : Hd) (a : Int) (hb : bg_Hd x) (ha : 0 ≤ a) (hc : a < 2000000) : oc.call 94 [x.v false,.int .i64 a] = some (.int .i64 (szI (w_Hd x) a),[]) := by
 refine fun_s rfl cd94 rfl rfl rfl (by simp;rfl) (by simp;rfl) ?_
 unfold bg_Hd at hb
 refine wa_ (wc_region (w_ (bx (h:=w_ (a_ (h:=wo_nil (e_ (h:=aft_normal (wa_ (wc_region (w_ (f_ (h:=w_ (l_ (h:=w_ (m_ (h:=?_)))))))))))))))))
 first | refine w_ (ca (hc:=sz_Ets x.oldA (a) hb.1 (by omega) (by omega)) (h:=?_)) | refine w_ (ca (hc:=sz_Ets x.oldB (szI (w_Ets x.oldA) (a)) hb.2.1 (by omega) (by omega)) (h:=?_))
 refine w_ (a_ (h:=wo_nil (e_ (h:=aft_normal (wa_ (wa_ (wc_region (w_ (m_ (h:=w_ (b_ (h:=wo_nil (e_ (h:=aft_normal (?_)))))))))))))))
 refine c_ (h1:=?_) (h2:=?_)
 rotate_right 1
 focus
  intro c1
  first
  | exact dn c1
  | (
   have d1 := c1;try simp at d1
   have e1 := szI_pos (n:=w_Ets x.oldA) (a:=a) (by omega)
   refine wc_skip (?_)
   )
 rotate_right 1
 focus
  intro c1
  first
  | exact dn c1
  | (
   have d1 := c1;try simp at d1
   refine wa_ (wc_region (w_ (a_ (h:=wo_nil (e_ (h:=aft_normal (wc_ret (?_))))))))
   )
 all_goals first
 | refine aft_ret ?_
 | (
  refine aft_normal ?_
  refine wa_ (wc_region (w_ (f_ (h:=w_ (l_ (h:=w_ (m_ (h:=?_))))))))
  first | refine w_ (ca (hc:=sz_Ets x.oldA (a) hb.1 (by omega) (by omega)) (h:=?_)) | refine w_ (ca (hc:=sz_Ets x.oldB (szI (w_Ets x.oldA) (a)) hb.2.1 (by omega) (by omega)) (h:=?_))
  refine w_ (a_ (h:=wo_nil (e_ (h:=aft_normal (wa_ (wa_ (wc_region (w_ (m_ (h:=w_ (b_ (h:=wo_nil (e_ (h:=aft_normal (?_)))))))))))))))
  refine c_ (h1:=?_) (h2:=?_)
  rotate_right 1
  focus
   intro c2
   first
   | exact dn c2
   | (
    have d2 := c2;try simp at d2
    have e2 := szI_pos (n:=w_Ets x.oldB) (a:=szI (w_Ets x.oldA) (a)) (by omega)
    refine wc_skip (?_)
    )
  rotate_right 1
  focus
   intro c2
   first
   | exact dn c2
   | (
    have d2 := c2;try simp at d2
    refine wa_ (wc_region (w_ (a_ (h:=wo_nil (e_ (h:=aft_normal (wc_ret (?_))))))))
    )
  all_goals first
  | refine aft_ret ?_
  | (
   refine aft_normal ?_
   refine wa_ (wc_region (w_ (f_ (h:=w_ (l_ (h:=w_ (m_ (h:=w_ (ca (hc:=sz_Bts x.waits (szI (w_Ets x.oldB) (szI (w_Ets x.oldA) (a))) hb.2.2 (by omega) (by omega)) (h:=w_ (a_ (h:=wo_nil (e_ (h:=aft_normal (wa_ (wa_ (wc_region (w_ (m_ (h:=w_ (b_ (h:=wo_nil (e_ (h:=aft_normal (?_)))))))))))))))))))))))))
   refine c_ (h1:=?_) (h2:=?_)
   rotate_right 1
   focus
    intro c3
    first
    | exact dn c3
    | (
     have d3 := c3;try simp at d3
     have e3 := szI_pos (n:=w_Bts x.waits) (a:=szI (w_Ets x.oldB) (szI (w_Ets x.oldA) (a))) (by omega)
     refine wc_skip (?_)
     )
   rotate_right 1
   focus
    intro c3
    first
    | exact dn c3
    | (
     have d3 := c3;try simp at d3
     refine wa_ (wc_region (w_ (a_ (h:=wo_nil (e_ (h:=aft_normal (wc_ret (?_))))))))
     )
   all_goals first
   | refine aft_ret ?_
   | (
    refine aft_normal ?_
    refine wa_ (wc_region (w_ (m_ (h:=w_ (a_ (h:=wo_nil (e_ (h:=aft_normal (wc_ret (?_))))))))))
    )
   )
  )
 all_goals (refine fin_ (hr:=(res_tmp rfl res_nil)) (h:=?_);(focus (simp [w_Hd,szI] at *;grind)))
theorem l_sz_Hds (l : List Hd) (hl : bg_Hds l) : ∀ x : Nat × Int,(x.1 ≤ l.length ∧ 0 ≤ x.2 ∧ x.2 < 2000000) → ∀ s,normE 2 (some [0,1,5]) s = ⟨[(0,.lst false 0 (hds false l)),(1,.int .i64 x.2),(5,.int .i64 x.1)],[],2⟩ →
 oc.loop 65 5 s = some (if 0 ≤ szI (wS w_Hd (l.drop x.1)) x.2 then (.exit 0,⟨[(1,.int .i64 (szI (wS w_Hd (l.drop x.1)) x.2))],[],2⟩) else (.ret,⟨[(1,.int .i64 (-1)),(4,.int .i64 (-1))],[],2⟩)) := by
 refine loop_ind (σ:=Nat × Int) (fun x => l.length - x.1) _ (fun x => ⟨[(0,.lst false 0 (hds false l)),(1,.int .i64 x.2),(5,.int .i64 x.1)],[],2⟩) _ ?_
 rintro ⟨i,a⟩ hi ih s hs
 simp only at hi
 refine loop_s cd65 rfl rfl hs ?_
 refine wa_ (wa_ (wc_region (w_ (m_ (h:=w_ (m_ (h:=w_ (le (h:=w_ (b_ (h:=wo_nil (e_ (h:=aft_normal (?_))))))))))))))
 refine c_ (h1:=?_) (h2:=?_)
 rotate_right 1
 focus
  intro c1
  first
  | exact dn c1
  | (
   have d1 := c1;try simp at d1
   obtain ⟨hi1,hi2,hi3⟩ := hi;have : i = l.length := (by omega);subst this
   refine wc_exit (?_)
   )
 rotate_right 1
 focus
  intro c1
  first
  | exact dn c1
  | (
   have d1 := c1;try simp at d1
   obtain ⟨hi1,hi2,hi3⟩ := hi;have hw := wrap_succ (i:=i) (by have := hl.1;omega);obtain ⟨d,hx,e1,g1⟩ := hds_cut (l:=l) (i:=i) (t:=false) (by omega);have hd := hl.2 d (List.mem_of_getElem? hx)
   refine wc_skip (?_)
   )
 all_goals first
 | refine aft_exit ?_
 | (
  refine aft_normal ?_
  refine wa_ (wc_block (wa_ (wc_region (w_ (m_ (h:=w_ (m_ (h:=w_ (x_ (h:=w_ (l_ (h:=w_ (m_ (h:=w_ (ca (hc:=sz_Hd d a hd (by omega) (by omega)) (h:=w_ (a_ (h:=wo_nil (e_ (h:=aft_normal (wa_ (wc_region (w_ (m_ (h:=w_ (b_ (h:=wo_nil (e_ (h:=aft_normal (?_))))))))))))))))))))))))))))))
  refine c_ (h1:=?_) (h2:=?_)
  rotate_right 1
  focus
   intro c2
   first
   | exact dn c2
   | (
    have d2 := c2;try simp at d2
    refine wc_skip (?_)
    )
  rotate_right 1
  focus
   intro c2
   first
   | exact dn c2
   | (
    have d2 := c2;try simp at d2
    refine wa_ (wc_region (w_ (a_ (h:=wo_nil (e_ (h:=aft_normal (wc_ret (?_))))))))
    )
  all_goals first | refine blk_normal ?_ | refine blk_ret ?_
  all_goals first
  | refine aft_ret ?_
  | (
   refine aft_normal ?_
   refine wc_region (w_ (m_ (h:=w_ (b_ (h:=w_ (a_ (h:=wo_nil (e_ (h:=?_)))))))))
   )
  )
 all_goals first
 | (refine (ih ((i + 1,szI (w_Hd d) a)) (⟨by simp;omega,by simp;omega,by have := szI_le0 (n:=w_Hd d) (a:=a) (by omega);simp;omega⟩) ?_ _ ?_).trans ?_;(focus (first | omega | (simp;done) | (simp;omega)));(focus (simp [normE,hw];done));(focus (simp only [e1,wS_cons];rw [szI_seq (by omega)])))
 | (apply end_leaf (ex:=Ext.ret) 2 (some [1,4]);(focus (simp [normE];rfl));(focus (simp only [e1,wS_cons];rw [szI_stop (by omega) (by omega)];simp;have := szI_neg (c:=w_Hd d) (a:=a) (by omega);simp [this])))
 | (apply end_leaf (ex:=(Ext.exit 0)) 2 (some [1,4]);(focus (simp [normE];rfl));(focus (have e0 : szI 0 a = a := (by unfold szI;rw [if_neg (by omega)];simp);simp [e0,hi2])))
theorem sz_Hds (l : List Hd) (a : Int) (hb : bg_Hds l) (ha : 0 ≤ a) (hc : a < 2000000) : oc.call 65 [.lst false 0 (hds false l),.int .i64 a] = some (.int .i64 (szI (w_Hds l) a),[]) := by
 refine fun_s rfl cd65 rfl rfl rfl (by simp;rfl) (by simp;rfl) ?_
 have hb1 := hb.1
 have hw : IntKind.i64.wrap (a - l.length) = a - l.length := wrap_id (by omega) (by omega)
 refine wa_ (wc_region (w_ (a_ (h:=wo_nil (e_ (h:=aft_normal (wa_ (wc_region (w_ (m_ (h:=w_ (m_ (h:=w_ (le (h:=w_ (b_ (h:=w_ (a_ (h:=wo_nil (e_ (h:=aft_normal (wa_ (wa_ (wc_region (w_ (m_ (h:=w_ (b_ (h:=wo_nil (e_ (h:=aft_normal (?_))))))))))))))))))))))))))))))))
 refine c_ (h1:=?_) (h2:=?_)
 rotate_right 1
 focus
  intro c1
  first
  | exact dn c1
  | (
   have d1 := c1;try simp at d1
   simp only [hw] at d1;have e1 : szI l.length a = a - l.length := (by unfold szI;rw [if_neg (by omega)])
   refine wc_skip (?_)
   )
 rotate_right 1
 focus
  intro c1
  first
  | exact dn c1
  | (
   have d1 := c1;try simp at d1
   refine wa_ (wc_region (w_ (a_ (h:=wo_nil (e_ (h:=aft_normal (wc_ret (?_))))))))
   )
 all_goals first
 | refine aft_ret ?_
 | (
  refine aft_normal ?_
  refine wa_ (wa_ (wc_region (w_ (a_ (h:=wo_nil (e_ (h:=aft_normal (wc_block (?_)))))))))
  refine wc_loopI (l_sz_Hds l hb (0,a - l.length) ⟨by simp,by simp;omega,by simp;omega⟩ _ (by simp [normE,hw])) ?_ ?_
  rotate_right 1
  focus
   intro c2
   first
   | exact dn c2
   | (
    have d2 := c2;try simp at d2
    skip
    )
  rotate_right 1
  focus
   intro c2
   first
   | exact dn c2
   | (
    have d2 := c2;try simp at d2
    skip
    )
  all_goals first | refine blk_ret ?_ | refine blk_exit ?_
  all_goals first
  | refine aft_ret ?_
  | (
   refine aft_normal ?_
   refine wa_ (wc_region (w_ (m_ (h:=w_ (a_ (h:=wo_nil (e_ (h:=aft_normal (wc_ret (?_))))))))))
   )
  )
 all_goals (refine fin_ (hr:=(res_tmp rfl res_nil)) (h:=?_);(focus (simp [w_Hds,szI,hw] at *;grind)))
theorem to_Hd (x : Hd) (h : w_Hd x < 2000000) : oc.call 108 [x.v false] = some (x.v true,[]) := by
 refine fun_s rfl cd108 rfl rfl rfl (by simp;rfl) (by simp;rfl) ?_
 unfold w_Hd at h
 refine wa_ (wc_region (w_ (bx (h:=w_ (al (h:=wo_nil (e_ (h:=aft_normal (wa_ (wc_region (w_ (al (h:=wo_nil (e_ (h:=aft_normal (wa_ (wc_region (w_ (f_ (h:=w_ (l_ (h:=?_))))))))))))))))))))))
 first | refine w_ (ca (hc:=to_Ets x.oldA (by omega)) (h:=?_)) | refine w_ (ca (hc:=to_Ets x.oldB (by omega)) (h:=?_))
 refine w_ (f_ (h:=w0 (s_ (h:=wo_nil (e_ (h:=aft_normal (wa_ (wc_region (w_ (f_ (h:=w_ (l_ (h:=?_)))))))))))))
 first | refine w_ (ca (hc:=to_Ets x.oldA (by omega)) (h:=?_)) | refine w_ (ca (hc:=to_Ets x.oldB (by omega)) (h:=?_))
 refine w_ (f_ (h:=w0 (s_ (h:=wo_nil (e_ (h:=aft_normal (wa_ (wc_region (w_ (f_ (h:=w_ (l_ (h:=w_ (ca (hc:=to_Bts x.waits (by omega)) (h:=w_ (f_ (h:=w0 (s_ (h:=wo_nil (e_ (h:=aft_normal (wa_ (wc_region (w_ (f_ (h:=w_ (l_ (h:=w_ (f_ (h:=w0 (s_ (h:=wo_nil (e_ (h:=aft_normal (wa_ (wc_region (w_ (l_ (h:=w0 (s_ (h:=wo_nil (e_ (h:=aft_normal (wc_ret (?_)))))))))))))))))))))))))))))))))))))))))))))
 all_goals (refine fin_ (hr:=(res_cell (tys_ok.zero _ _ rfl) rfl (by simp;rfl) (by rfl) res_nil)) (h:=?_);(focus (simp [Hd.v])))
theorem l_to_Hds (l : List Hd) (h : w_Hds l < 2000000) : ∀ x : Nat × (List Hd),(x.1 ≤ l.length ∧ x.2.length = l.length ∧ x.2.take x.1 = l.take x.1) → ∀ s,normE 1 (some [0,3,4]) s = ⟨[(0,.lst false 0 (hds false l)),(3,.ref 1 0 l.length),(4,.int .i64 x.1)],[(1,⟨false,false,4,hds true x.2,0⟩)],2⟩ →
 oc.loop 75 3 s = some (.exit 0,⟨[(3,.ref 1 0 l.length)],[(1,⟨false,false,4,hds true l,0⟩)],2⟩) := by
 refine loop_ind (σ:=Nat × (List Hd)) (fun x => l.length - x.1) _ (fun x => ⟨[(0,.lst false 0 (hds false l)),(3,.ref 1 0 l.length),(4,.int .i64 x.1)],[(1,⟨false,false,4,hds true x.2,0⟩)],2⟩) _ ?_
 rintro ⟨i,r⟩ hi ih s hs
 simp only at hi
 refine loop_s cd75 rfl rfl hs ?_
 obtain ⟨hi1,hi2,hi3⟩ := hi
 have hlen := w_Hds_len (l:=l)
 refine wa_ (wa_ (wc_region (w_ (m_ (h:=w_ (m_ (h:=w_ (le (h:=w_ (b_ (h:=wo_nil (e_ (h:=aft_normal (?_))))))))))))))
 refine c_ (h1:=?_) (h2:=?_)
 rotate_right 1
 focus
  intro c1
  simp at c1;have : i = l.length := (by omega);subst this;rw [← hi2] at hi3;simp at hi3;rw [hi2] at hi3;simp at hi3;subst hi3
  refine wc_exit (?_)
 rotate_right 1
 focus
  intro c1
  simp at c1;have hw := wrap_succ (i:=i) (by omega);obtain ⟨d,hx,d1,g1⟩ := hds_cut (t:=false) c1;have hd := w_Hds_mem (List.mem_of_getElem? hx);obtain ⟨y,hy,_,g2⟩ := hds_cut (t:=true) (l:=r) (i:=i) (by omega);simp at g2
  refine wc_skip (?_)
 all_goals first
 | refine aft_exit ?_
 | (
  refine aft_normal ?_
  refine wa_ (wc_block (wc_region (w_ (m_ (h:=w_ (m_ (h:=w_ (m_ (h:=w_ (m_ (h:=w_ (x_ (h:=w_ (l_ (h:=w_ (ca (hc:=to_Hd d (by omega)) (h:=w_ (x_ (h:=w0 (s_ (h:=wo_nil (e_ (h:=blk_normal (aft_normal (wc_region (w_ (m_ (h:=w_ (b_ (h:=w_ (a_ (h:=wo_nil (e_ (h:=?_))))))))))))))))))))))))))))))))))
  )
 all_goals first
 | (refine (ih ((i + 1,r.set i d)) (⟨by simp;omega,by simpa using hi2,set_take hi3 hi2 hx⟩) ?_ _ ?_).trans ?_;(focus (first | omega | (simp;done) | (simp;omega)));(focus (simp [normE,hw];done));(focus (rfl)))
 | (apply end_leaf (ex:=(Ext.exit 0)) 1 (some [3]);(focus (simp [normE];rfl));(focus (simp)))
theorem to_Hds (l : List Hd) (h : w_Hds l < 2000000) : oc.call 75 [.lst false 0 (hds false l)] = some (.lst true 4 (hds true l),[]) := by
 refine fun_s rfl cd75 rfl rfl rfl (by simp;rfl) (by simp;rfl) ?_
 have hlen := w_Hds_len (l:=l)
 refine wa_ (wc_region (w_ (aN (h:=wo_nil (e_ (h:=aft_normal (wa_ (wc_region (w_ (m_ (h:=w_ (le (h:=w_ (mk (h:=w_ (a_ (h:=wo_nil (e_ (h:=aft_normal (wa_ (wa_ (wc_region (w_ (a_ (h:=wo_nil (e_ (h:=aft_normal (wc_block (?_)))))))))))))))))))))))))))))
 refine wc_loop (l_to_Hds l h (0,List.replicate l.length ⟨[],[],[],0⟩) (by simp) _ (by simp [normE,hds_zero])) ?_
 refine blk_exit (aft_normal (wa_ (wc_region (w_ (m_ (h:=w_ (a_ (h:=wo_nil (e_ (h:=aft_normal (wc_ret (?_))))))))))))
 all_goals (refine fin_ (hr:=(res_tmp rfl res_nil)) (h:=?_);(focus (first | (simp_all;done) | (simp_all <;> omega) | (simp_all <;> split <;> simp_all <;> omega))))
theorem eq_Hd (x y : Hd) (h : w_Hd x < 2000000) (h2 : w_Hd y < 2000000) : oc.call 121 [x.v false,y.v false] = some (.bool (decide (x = y)),[]) := by
 refine fun_s rfl cd121 rfl rfl rfl (by simp;rfl) (by simp;rfl) ?_
 unfold w_Hd at h h2
 refine wa_ (wc_region (w_ (bx (h:=w_ (bx (h:=w_ (a_ (h:=wo_nil (e_ (h:=aft_normal (wa_ (wa_ (wc_region (w_ (f_ (h:=w_ (l_ (h:=w_ (f_ (h:=w_ (l_ (h:=?_))))))))))))))))))))))
 first | refine w_ (ca (hc:=eq_Ets x.oldA y.oldA (by omega) (by omega)) (h:=?_)) | refine w_ (ca (hc:=eq_Ets x.oldB y.oldB (by omega) (by omega)) (h:=?_))
 refine w_ (u_ (h:=wo_nil (e_ (h:=aft_normal (?_)))))
 refine c_ (h1:=?_) (h2:=?_)
 rotate_right 1
 focus
  intro c1
  refine wc_skip (?_)
 rotate_right 1
 focus
  intro c1
  refine wa_ (wc_region (w_ (a_ (h:=wo_nil (e_ (h:=aft_normal (wc_ret (?_))))))))
 all_goals first
 | refine aft_ret ?_
 | (
  refine aft_normal ?_
  refine wa_ (wa_ (wc_region (w_ (f_ (h:=w_ (l_ (h:=w_ (f_ (h:=w_ (l_ (h:=?_)))))))))))
  first | refine w_ (ca (hc:=eq_Ets x.oldA y.oldA (by omega) (by omega)) (h:=?_)) | refine w_ (ca (hc:=eq_Ets x.oldB y.oldB (by omega) (by omega)) (h:=?_))
  refine w_ (u_ (h:=wo_nil (e_ (h:=aft_normal (?_)))))
  refine c_ (h1:=?_) (h2:=?_)
  rotate_right 1
  focus
   intro c2
   refine wc_skip (?_)
  rotate_right 1
  focus
   intro c2
   refine wa_ (wc_region (w_ (a_ (h:=wo_nil (e_ (h:=aft_normal (wc_ret (?_))))))))
  all_goals first
  | refine aft_ret ?_
  | (
   refine aft_normal ?_
   refine wa_ (wa_ (wc_region (w_ (f_ (h:=w_ (l_ (h:=w_ (f_ (h:=w_ (l_ (h:=w_ (ca (hc:=eq_Bts x.waits y.waits (by omega) (by omega)) (h:=w_ (u_ (h:=wo_nil (e_ (h:=aft_normal (?_))))))))))))))))))
   refine c_ (h1:=?_) (h2:=?_)
   rotate_right 1
   focus
    intro c3
    refine wc_skip (?_)
   rotate_right 1
   focus
    intro c3
    refine wa_ (wc_region (w_ (a_ (h:=wo_nil (e_ (h:=aft_normal (wc_ret (?_))))))))
   all_goals first
   | refine aft_ret ?_
   | (
    refine aft_normal ?_
    refine wa_ (wa_ (wc_region (w_ (f_ (h:=w_ (l_ (h:=w_ (f_ (h:=w_ (l_ (h:=w_ (bE (h:=wo_nil (e_ (h:=aft_normal (?_))))))))))))))))
    refine c_ (h1:=?_) (h2:=?_)
    rotate_right 1
    focus
     intro c4
     refine wc_skip (?_)
    rotate_right 1
    focus
     intro c4
     refine wa_ (wc_region (w_ (a_ (h:=wo_nil (e_ (h:=aft_normal (wc_ret (?_))))))))
    all_goals first
    | refine aft_ret ?_
    | (
     refine aft_normal ?_
     refine wa_ (wc_region (w_ (a_ (h:=wo_nil (e_ (h:=aft_normal (wc_ret (?_))))))))
     )
    )
   )
  )
 all_goals (refine fin_ (hr:=(res_tmp rfl res_nil)) (h:=?_);(focus (first | (simp_all [Hd.eq_iff];done) | (simp [Hd.eq_iff] at *;grind))))
theorem l_eq_Hds (l m : List Hd) (h : w_Hds l < 2000000) (h2 : w_Hds m < 2000000) (hlm : l.length = m.length) : ∀ i : Nat,(i ≤ l.length) → ∀ s,normE 2 (some [0,1,5]) s = ⟨[(0,.lst false 0 (hds false l)),(1,.lst false 0 (hds false m)),(5,.int .i64 i)],[],2⟩ →
 oc.loop 91 4 s = some (if l.drop i = m.drop i then (.exit 0,⟨[],[],2⟩) else (.ret,⟨[(4,.bool false)],[],2⟩)) := by
 refine loop_ind (σ:=Nat) (fun i => l.length - i) _ (fun i => ⟨[(0,.lst false 0 (hds false l)),(1,.lst false 0 (hds false m)),(5,.int .i64 i)],[],2⟩) _ ?_
 intro i hi ih s hs
 refine loop_s cd91 rfl rfl hs ?_
 have hl1 := w_Hds_len (l:=l)
 refine wa_ (wa_ (wc_region (w_ (m_ (h:=w_ (m_ (h:=w_ (le (h:=w_ (b_ (h:=wo_nil (e_ (h:=aft_normal (?_))))))))))))))
 refine c_ (h1:=?_) (h2:=?_)
 rotate_right 1
 focus
  intro c1
  simp at c1;have : i = l.length := (by omega);subst this
  refine wc_exit (?_)
 rotate_right 1
 focus
  intro c1
  simp at c1;have hw := wrap_succ (i:=i) (by omega);obtain ⟨x,hx,d1,g1⟩ := hds_cut (t:=false) c1;obtain ⟨y,hy,d2,g2⟩ := hds_cut (t:=false) (l:=m) (i:=i) (by omega);have m1 := w_Hds_mem (List.mem_of_getElem? hx);have m2 := w_Hds_mem (List.mem_of_getElem? hy)
  refine wc_skip (?_)
 all_goals first
 | refine aft_exit ?_
 | (
  refine aft_normal ?_
  refine wa_ (wc_block (wa_ (wc_draw (y_ (m_ (h:=ax_ (h:=y_ (m_ (h:=ax_ (h:=y_ (x_ (h:=ax_ (h:=y_ (l_ (h:=ax_ (h:=y_ (m_ (h:=ax_ (h:=y_ (m_ (h:=ax_ (h:=y_ (x_ (h:=ax_ (h:=y_ (l_ (h:=ax_ (h:=y_ (ca (hc:=eq_Hd x y (by omega) (by omega)) (h:=ax_ (h:=y_ (u_ (h:=ax_ (h:=wo_nil (ed (h:=aft_normal (?_)))))))))))))))))))))))))))))))))))))
  refine c_ (h1:=?_) (h2:=?_)
  rotate_right 1
  focus
   intro c2
   refine wc_skip (?_)
  rotate_right 1
  focus
   intro c2
   refine wa_ (wc_region (w_ (a_ (h:=wo_nil (e_ (h:=aft_normal (wc_ret (?_))))))))
  all_goals first | refine blk_normal ?_ | refine blk_ret ?_
  all_goals first
  | refine aft_ret ?_
  | (
   refine aft_normal ?_
   refine wc_region (w_ (m_ (h:=w_ (b_ (h:=w_ (a_ (h:=wo_nil (e_ (h:=?_)))))))))
   )
  )
 all_goals first
 | (refine (ih (i + 1) (by omega) ?_ _ ?_).trans ?_;(focus (first | omega | (simp;done) | (simp;omega)));(focus (simp [normE,hw];done));(focus (simp at c2;rw [d1,d2];simp [c2])))
 | (apply end_leaf (ex:=Ext.ret) 2 (some [4]);(focus (simp [normE];rfl));(focus (simp at c2;rw [d1,d2];simp [c2])))
 | (apply end_leaf (ex:=(Ext.exit 0)) 2 (some [4]);(focus (simp [normE];rfl));(focus (rw [if_pos (by simp [hlm])])))
theorem eq_Hds (l m : List Hd) (h : w_Hds l < 2000000) (h2 : w_Hds m < 2000000) : oc.call 91 [.lst false 0 (hds false l),.lst false 0 (hds false m)] = some (.bool (decide (l = m)),[]) := by
 refine fun_s rfl cd91 rfl rfl rfl (by simp;rfl) (by simp;rfl) ?_
 refine wa_ (wc_region (w_ (a_ (h:=wo_nil (e_ (h:=aft_normal (wa_ (wa_ (wc_region (w_ (m_ (h:=w_ (le (h:=w_ (m_ (h:=w_ (le (h:=w_ (bE (h:=wo_nil (e_ (h:=aft_normal (?_)))))))))))))))))))))))
 refine c_ (h1:=?_) (h2:=?_)
 rotate_right 1
 focus
  intro c1
  simp at c1
  refine wc_skip (?_)
 rotate_right 1
 focus
  intro c1
  simp at c1;have hne : l ≠ m := (by rintro rfl;exact c1 rfl)
  refine wa_ (wc_region (w_ (a_ (h:=wo_nil (e_ (h:=aft_normal (wc_ret (?_))))))))
 all_goals first
 | refine aft_ret ?_
 | (
  refine aft_normal ?_
  refine wa_ (wa_ (wc_region (w_ (a_ (h:=wo_nil (e_ (h:=aft_normal (wc_block (?_)))))))))
  refine wc_loopI (l_eq_Hds l m h h2 (by omega) 0 (by omega) _ (by simp [normE])) ?_ ?_
  rotate_right 1
  focus
   intro c2
   skip
  rotate_right 1
  focus
   intro c2
   skip
  all_goals first | refine blk_ret ?_ | refine blk_exit ?_
  all_goals first
  | refine aft_ret ?_
  | (
   refine aft_normal ?_
   refine wa_ (wc_region (w_ (a_ (h:=wo_nil (e_ (h:=aft_normal (wc_ret (?_))))))))
   )
  )
 all_goals (refine fin_ (hr:=(res_tmp rfl res_nil)) (h:=?_);(focus (first | (simp_all;done) | (simp_all <;> omega) | (simp_all <;> split <;> simp_all <;> omega))))
def w_Rl (x : Rl) : Nat := w_Ets x.set
def bg_Rl (x : Rl) : Prop := bg_Ets x.set
def w_Rls (l : List Rl) : Nat := l.length + wS w_Rl l
def bg_Rls (l : List Rl) : Prop := l.length ≤ 140737488351232 ∧ ∀ x ∈ l,bg_Rl x
theorem w_Rls_mem {l : List Rl} {x : Rl} (h : x ∈ l) : l.length + w_Rl x ≤ w_Rls l := by
  have := wS_mem (f:=w_Rl) h;unfold w_Rls;omega
theorem w_Rls_len {l : List Rl} : l.length ≤ w_Rls l := by unfold w_Rls;omega
theorem sz_Rl (x : Rl) (a : Int) (hb : bg_Rl x) (ha : 0 ≤ a) (hc : a < 2000000) : oc.call 95 [x.v false,.int .i64 a] = some (.int .i64 (szI (w_Rl x) a),[]) := by
 refine fun_s rfl cd95 rfl rfl rfl (by simp;rfl) (by simp;rfl) ?_
 unfold bg_Rl at hb
 refine wa_ (wc_region (w_ (bx (h:=w_ (a_ (h:=wo_nil (e_ (h:=aft_normal (wa_ (wc_region (w_ (f_ (h:=w_ (l_ (h:=w_ (m_ (h:=w_ (ca (hc:=sz_Ets x.set (a) hb (by omega) (by omega)) (h:=w_ (a_ (h:=wo_nil (e_ (h:=aft_normal (wa_ (wa_ (wc_region (w_ (m_ (h:=w_ (b_ (h:=wo_nil (e_ (h:=aft_normal (?_))))))))))))))))))))))))))))))))))
 refine c_ (h1:=?_) (h2:=?_)
 rotate_right 1
 focus
  intro c1
  first
  | exact dn c1
  | (
   have d1 := c1;try simp at d1
   have e1 := szI_pos (n:=w_Ets x.set) (a:=a) (by omega)
   refine wc_skip (?_)
   )
 rotate_right 1
 focus
  intro c1
  first
  | exact dn c1
  | (
   have d1 := c1;try simp at d1
   refine wa_ (wc_region (w_ (a_ (h:=wo_nil (e_ (h:=aft_normal (wc_ret (?_))))))))
   )
 all_goals first
 | refine aft_ret ?_
 | (
  refine aft_normal ?_
  refine wa_ (wc_region (w_ (m_ (h:=w_ (a_ (h:=wo_nil (e_ (h:=aft_normal (wc_ret (?_))))))))))
  )
 all_goals (refine fin_ (hr:=(res_tmp rfl res_nil)) (h:=?_);(focus (simp [w_Rl,szI] at *;grind)))
theorem l_sz_Rls (l : List Rl) (hl : bg_Rls l) : ∀ x : Nat × Int,(x.1 ≤ l.length ∧ 0 ≤ x.2 ∧ x.2 < 2000000) → ∀ s,normE 2 (some [0,1,5]) s = ⟨[(0,.lst false 0 (rls false l)),(1,.int .i64 x.2),(5,.int .i64 x.1)],[],2⟩ →
 oc.loop 66 5 s = some (if 0 ≤ szI (wS w_Rl (l.drop x.1)) x.2 then (.exit 0,⟨[(1,.int .i64 (szI (wS w_Rl (l.drop x.1)) x.2))],[],2⟩) else (.ret,⟨[(1,.int .i64 (-1)),(4,.int .i64 (-1))],[],2⟩)) := by
 refine loop_ind (σ:=Nat × Int) (fun x => l.length - x.1) _ (fun x => ⟨[(0,.lst false 0 (rls false l)),(1,.int .i64 x.2),(5,.int .i64 x.1)],[],2⟩) _ ?_
 rintro ⟨i,a⟩ hi ih s hs
 simp only at hi
 refine loop_s cd66 rfl rfl hs ?_
 refine wa_ (wa_ (wc_region (w_ (m_ (h:=w_ (m_ (h:=w_ (le (h:=w_ (b_ (h:=wo_nil (e_ (h:=aft_normal (?_))))))))))))))
 refine c_ (h1:=?_) (h2:=?_)
 rotate_right 1
 focus
  intro c1
  first
  | exact dn c1
  | (
   have d1 := c1;try simp at d1
   obtain ⟨hi1,hi2,hi3⟩ := hi;have : i = l.length := (by omega);subst this
   refine wc_exit (?_)
   )
 rotate_right 1
 focus
  intro c1
  first
  | exact dn c1
  | (
   have d1 := c1;try simp at d1
   obtain ⟨hi1,hi2,hi3⟩ := hi;have hw := wrap_succ (i:=i) (by have := hl.1;omega);obtain ⟨d,hx,e1,g1⟩ := rls_cut (l:=l) (i:=i) (t:=false) (by omega);have hd := hl.2 d (List.mem_of_getElem? hx)
   refine wc_skip (?_)
   )
 all_goals first
 | refine aft_exit ?_
 | (
  refine aft_normal ?_
  refine wa_ (wc_block (wa_ (wc_region (w_ (m_ (h:=w_ (m_ (h:=w_ (x_ (h:=w_ (l_ (h:=w_ (m_ (h:=w_ (ca (hc:=sz_Rl d a hd (by omega) (by omega)) (h:=w_ (a_ (h:=wo_nil (e_ (h:=aft_normal (wa_ (wc_region (w_ (m_ (h:=w_ (b_ (h:=wo_nil (e_ (h:=aft_normal (?_))))))))))))))))))))))))))))))
  refine c_ (h1:=?_) (h2:=?_)
  rotate_right 1
  focus
   intro c2
   first
   | exact dn c2
   | (
    have d2 := c2;try simp at d2
    refine wc_skip (?_)
    )
  rotate_right 1
  focus
   intro c2
   first
   | exact dn c2
   | (
    have d2 := c2;try simp at d2
    refine wa_ (wc_region (w_ (a_ (h:=wo_nil (e_ (h:=aft_normal (wc_ret (?_))))))))
    )
  all_goals first | refine blk_normal ?_ | refine blk_ret ?_
  all_goals first
  | refine aft_ret ?_
  | (
   refine aft_normal ?_
   refine wc_region (w_ (m_ (h:=w_ (b_ (h:=w_ (a_ (h:=wo_nil (e_ (h:=?_)))))))))
   )
  )
 all_goals first
 | (refine (ih ((i + 1,szI (w_Rl d) a)) (⟨by simp;omega,by simp;omega,by have := szI_le0 (n:=w_Rl d) (a:=a) (by omega);simp;omega⟩) ?_ _ ?_).trans ?_;(focus (first | omega | (simp;done) | (simp;omega)));(focus (simp [normE,hw];done));(focus (simp only [e1,wS_cons];rw [szI_seq (by omega)])))
 | (apply end_leaf (ex:=Ext.ret) 2 (some [1,4]);(focus (simp [normE];rfl));(focus (simp only [e1,wS_cons];rw [szI_stop (by omega) (by omega)];simp;have := szI_neg (c:=w_Rl d) (a:=a) (by omega);simp [this])))
 | (apply end_leaf (ex:=(Ext.exit 0)) 2 (some [1,4]);(focus (simp [normE];rfl));(focus (have e0 : szI 0 a = a := (by unfold szI;rw [if_neg (by omega)];simp);simp [e0,hi2])))
theorem sz_Rls (l : List Rl) (a : Int) (hb : bg_Rls l) (ha : 0 ≤ a) (hc : a < 2000000) : oc.call 66 [.lst false 0 (rls false l),.int .i64 a] = some (.int .i64 (szI (w_Rls l) a),[]) := by
 refine fun_s rfl cd66 rfl rfl rfl (by simp;rfl) (by simp;rfl) ?_
 have hb1 := hb.1
 have hw : IntKind.i64.wrap (a - l.length) = a - l.length := wrap_id (by omega) (by omega)
 refine wa_ (wc_region (w_ (a_ (h:=wo_nil (e_ (h:=aft_normal (wa_ (wc_region (w_ (m_ (h:=w_ (m_ (h:=w_ (le (h:=w_ (b_ (h:=w_ (a_ (h:=wo_nil (e_ (h:=aft_normal (wa_ (wa_ (wc_region (w_ (m_ (h:=w_ (b_ (h:=wo_nil (e_ (h:=aft_normal (?_))))))))))))))))))))))))))))))))
 refine c_ (h1:=?_) (h2:=?_)
 rotate_right 1
 focus
  intro c1
  first
  | exact dn c1
  | (
   have d1 := c1;try simp at d1
   simp only [hw] at d1;have e1 : szI l.length a = a - l.length := (by unfold szI;rw [if_neg (by omega)])
   refine wc_skip (?_)
   )
 rotate_right 1
 focus
  intro c1
  first
  | exact dn c1
  | (
   have d1 := c1;try simp at d1
   refine wa_ (wc_region (w_ (a_ (h:=wo_nil (e_ (h:=aft_normal (wc_ret (?_))))))))
   )
 all_goals first
 | refine aft_ret ?_
 | (
  refine aft_normal ?_
  refine wa_ (wa_ (wc_region (w_ (a_ (h:=wo_nil (e_ (h:=aft_normal (wc_block (?_)))))))))
  refine wc_loopI (l_sz_Rls l hb (0,a - l.length) ⟨by simp,by simp;omega,by simp;omega⟩ _ (by simp [normE,hw])) ?_ ?_
  rotate_right 1
  focus
   intro c2
   first
   | exact dn c2
   | (
    have d2 := c2;try simp at d2
    skip
    )
  rotate_right 1
  focus
   intro c2
   first
   | exact dn c2
   | (
    have d2 := c2;try simp at d2
    skip
    )
  all_goals first | refine blk_ret ?_ | refine blk_exit ?_
  all_goals first
  | refine aft_ret ?_
  | (
   refine aft_normal ?_
   refine wa_ (wc_region (w_ (m_ (h:=w_ (a_ (h:=wo_nil (e_ (h:=aft_normal (wc_ret (?_))))))))))
   )
  )
 all_goals (refine fin_ (hr:=(res_tmp rfl res_nil)) (h:=?_);(focus (simp [w_Rls,szI,hw] at *;grind)))
theorem to_Rl (x : Rl) (h : w_Rl x < 2000000) : oc.call 109 [x.v false] = some (x.v true,[]) := by
 refine fun_s rfl cd109 rfl rfl rfl (by simp;rfl) (by simp;rfl) ?_
 unfold w_Rl at h
 refine wa_ (wc_region (w_ (bx (h:=w_ (al (h:=wo_nil (e_ (h:=aft_normal (wa_ (wc_region (w_ (al (h:=wo_nil (e_ (h:=aft_normal (wa_ (wc_region (w_ (f_ (h:=w_ (l_ (h:=w_ (f_ (h:=w0 (s_ (h:=wo_nil (e_ (h:=aft_normal (wa_ (wc_region (w_ (f_ (h:=w_ (l_ (h:=w_ (f_ (h:=w0 (s_ (h:=wo_nil (e_ (h:=aft_normal (wa_ (wc_region (w_ (f_ (h:=?_))))))))))))))))))))))))))))))))))))))))))))))
 refine w_ (l_ (h:=w_ (ca (hc:=to_Ets x.set (by omega)) (h:=w_ (f_ (h:=w0 (s_ (h:=wo_nil (e_ (h:=aft_normal (wa_ (wc_region (w_ (l_ (h:=w0 (s_ (h:=wo_nil (e_ (h:=aft_normal (wc_ret (?_)))))))))))))))))))))
 all_goals (refine fin_ (hr:=(res_cell (tys_ok.zero _ _ rfl) rfl (by simp;rfl) (by rfl) res_nil)) (h:=?_);(focus (simp [Rl.v])))
theorem l_to_Rls (l : List Rl) (h : w_Rls l < 2000000) : ∀ x : Nat × (List Rl),(x.1 ≤ l.length ∧ x.2.length = l.length ∧ x.2.take x.1 = l.take x.1) → ∀ s,normE 1 (some [0,3,4]) s = ⟨[(0,.lst false 0 (rls false l)),(3,.ref 1 0 l.length),(4,.int .i64 x.1)],[(1,⟨false,false,3,rls true x.2,0⟩)],2⟩ →
 oc.loop 76 3 s = some (.exit 0,⟨[(3,.ref 1 0 l.length)],[(1,⟨false,false,3,rls true l,0⟩)],2⟩) := by
 refine loop_ind (σ:=Nat × (List Rl)) (fun x => l.length - x.1) _ (fun x => ⟨[(0,.lst false 0 (rls false l)),(3,.ref 1 0 l.length),(4,.int .i64 x.1)],[(1,⟨false,false,3,rls true x.2,0⟩)],2⟩) _ ?_
 rintro ⟨i,r⟩ hi ih s hs
 simp only at hi
 refine loop_s cd76 rfl rfl hs ?_
 obtain ⟨hi1,hi2,hi3⟩ := hi
 have hlen := w_Rls_len (l:=l)
 refine wa_ (wa_ (wc_region (w_ (m_ (h:=w_ (m_ (h:=w_ (le (h:=w_ (b_ (h:=wo_nil (e_ (h:=aft_normal (?_))))))))))))))
 refine c_ (h1:=?_) (h2:=?_)
 rotate_right 1
 focus
  intro c1
  simp at c1;have : i = l.length := (by omega);subst this;rw [← hi2] at hi3;simp at hi3;rw [hi2] at hi3;simp at hi3;subst hi3
  refine wc_exit (?_)
 rotate_right 1
 focus
  intro c1
  simp at c1;have hw := wrap_succ (i:=i) (by omega);obtain ⟨d,hx,d1,g1⟩ := rls_cut (t:=false) c1;have hd := w_Rls_mem (List.mem_of_getElem? hx);obtain ⟨y,hy,_,g2⟩ := rls_cut (t:=true) (l:=r) (i:=i) (by omega);simp at g2
  refine wc_skip (?_)
 all_goals first
 | refine aft_exit ?_
 | (
  refine aft_normal ?_
  refine wa_ (wc_block (wc_region (w_ (m_ (h:=w_ (m_ (h:=w_ (m_ (h:=w_ (m_ (h:=w_ (x_ (h:=w_ (l_ (h:=w_ (ca (hc:=to_Rl d (by omega)) (h:=w_ (x_ (h:=w0 (s_ (h:=wo_nil (e_ (h:=blk_normal (aft_normal (wc_region (w_ (m_ (h:=w_ (b_ (h:=w_ (a_ (h:=wo_nil (e_ (h:=?_))))))))))))))))))))))))))))))))))
  )
 all_goals first
 | (refine (ih ((i + 1,r.set i d)) (⟨by simp;omega,by simpa using hi2,set_take hi3 hi2 hx⟩) ?_ _ ?_).trans ?_;(focus (first | omega | (simp;done) | (simp;omega)));(focus (simp [normE,hw];done));(focus (rfl)))
 | (apply end_leaf (ex:=(Ext.exit 0)) 1 (some [3]);(focus (simp [normE];rfl));(focus (simp)))
theorem to_Rls (l : List Rl) (h : w_Rls l < 2000000) : oc.call 76 [.lst false 0 (rls false l)] = some (.lst true 3 (rls true l),[]) := by
 refine fun_s rfl cd76 rfl rfl rfl (by simp;rfl) (by simp;rfl) ?_
 have hlen := w_Rls_len (l:=l)
 refine wa_ (wc_region (w_ (aN (h:=wo_nil (e_ (h:=aft_normal (wa_ (wc_region (w_ (m_ (h:=w_ (le (h:=w_ (mk (h:=w_ (a_ (h:=wo_nil (e_ (h:=aft_normal (wa_ (wa_ (wc_region (w_ (a_ (h:=wo_nil (e_ (h:=aft_normal (wc_block (?_)))))))))))))))))))))))))))))
 refine wc_loop (l_to_Rls l h (0,List.replicate l.length ⟨0,0,[]⟩) (by simp) _ (by simp [normE,rls_zero])) ?_
 refine blk_exit (aft_normal (wa_ (wc_region (w_ (m_ (h:=w_ (a_ (h:=wo_nil (e_ (h:=aft_normal (wc_ret (?_))))))))))))
 all_goals (refine fin_ (hr:=(res_tmp rfl res_nil)) (h:=?_);(focus (first | (simp_all;done) | (simp_all <;> omega) | (simp_all <;> split <;> simp_all <;> omega))))
theorem eq_Rl (x y : Rl) (h : w_Rl x < 2000000) (h2 : w_Rl y < 2000000) : oc.call 122 [x.v false,y.v false] = some (.bool (decide (x = y)),[]) := by
 refine fun_s rfl cd122 rfl rfl rfl (by simp;rfl) (by simp;rfl) ?_
 unfold w_Rl at h h2
 refine wa_ (wc_region (w_ (bx (h:=w_ (bx (h:=w_ (a_ (h:=wo_nil (e_ (h:=aft_normal (wa_ (wa_ (wc_region (w_ (f_ (h:=w_ (l_ (h:=w_ (f_ (h:=w_ (l_ (h:=w_ (bE (h:=wo_nil (e_ (h:=aft_normal (?_)))))))))))))))))))))))))))
 refine c_ (h1:=?_) (h2:=?_)
 rotate_right 1
 focus
  intro c1
  refine wc_skip (?_)
 rotate_right 1
 focus
  intro c1
  refine wa_ (wc_region (w_ (a_ (h:=wo_nil (e_ (h:=aft_normal (wc_ret (?_))))))))
 all_goals first
 | refine aft_ret ?_
 | (
  refine aft_normal ?_
  refine wa_ (wa_ (wc_region (w_ (f_ (h:=w_ (l_ (h:=w_ (f_ (h:=w_ (l_ (h:=w_ (bE (h:=wo_nil (e_ (h:=aft_normal (?_))))))))))))))))
  refine c_ (h1:=?_) (h2:=?_)
  rotate_right 1
  focus
   intro c2
   refine wc_skip (?_)
  rotate_right 1
  focus
   intro c2
   refine wa_ (wc_region (w_ (a_ (h:=wo_nil (e_ (h:=aft_normal (wc_ret (?_))))))))
  all_goals first
  | refine aft_ret ?_
  | (
   refine aft_normal ?_
   refine wa_ (wa_ (wc_region (w_ (f_ (h:=w_ (l_ (h:=w_ (f_ (h:=w_ (l_ (h:=w_ (ca (hc:=eq_Ets x.set y.set (by omega) (by omega)) (h:=w_ (u_ (h:=wo_nil (e_ (h:=aft_normal (?_))))))))))))))))))
   refine c_ (h1:=?_) (h2:=?_)
   rotate_right 1
   focus
    intro c3
    refine wc_skip (?_)
   rotate_right 1
   focus
    intro c3
    refine wa_ (wc_region (w_ (a_ (h:=wo_nil (e_ (h:=aft_normal (wc_ret (?_))))))))
   all_goals first
   | refine aft_ret ?_
   | (
    refine aft_normal ?_
    refine wa_ (wc_region (w_ (a_ (h:=wo_nil (e_ (h:=aft_normal (wc_ret (?_))))))))
    )
   )
  )
 all_goals (refine fin_ (hr:=(res_tmp rfl res_nil)) (h:=?_);(focus (first | (simp_all [Rl.eq_iff];done) | (simp [Rl.eq_iff] at *;grind))))
theorem l_eq_Rls (l m : List Rl) (h : w_Rls l < 2000000) (h2 : w_Rls m < 2000000) (hlm : l.length = m.length) : ∀ i : Nat,(i ≤ l.length) → ∀ s,normE 2 (some [0,1,5]) s = ⟨[(0,.lst false 0 (rls false l)),(1,.lst false 0 (rls false m)),(5,.int .i64 i)],[],2⟩ →
 oc.loop 92 4 s = some (if l.drop i = m.drop i then (.exit 0,⟨[],[],2⟩) else (.ret,⟨[(4,.bool false)],[],2⟩)) := by
 refine loop_ind (σ:=Nat) (fun i => l.length - i) _ (fun i => ⟨[(0,.lst false 0 (rls false l)),(1,.lst false 0 (rls false m)),(5,.int .i64 i)],[],2⟩) _ ?_
 intro i hi ih s hs
 refine loop_s cd92 rfl rfl hs ?_
 have hl1 := w_Rls_len (l:=l)
 refine wa_ (wa_ (wc_region (w_ (m_ (h:=w_ (m_ (h:=w_ (le (h:=w_ (b_ (h:=wo_nil (e_ (h:=aft_normal (?_))))))))))))))
 refine c_ (h1:=?_) (h2:=?_)
 rotate_right 1
 focus
  intro c1
  simp at c1;have : i = l.length := (by omega);subst this
  refine wc_exit (?_)
 rotate_right 1
 focus
  intro c1
  simp at c1;have hw := wrap_succ (i:=i) (by omega);obtain ⟨x,hx,d1,g1⟩ := rls_cut (t:=false) c1;obtain ⟨y,hy,d2,g2⟩ := rls_cut (t:=false) (l:=m) (i:=i) (by omega);have m1 := w_Rls_mem (List.mem_of_getElem? hx);have m2 := w_Rls_mem (List.mem_of_getElem? hy)
  refine wc_skip (?_)
 all_goals first
 | refine aft_exit ?_
 | (
  refine aft_normal ?_
  refine wa_ (wc_block (wa_ (wc_draw (y_ (m_ (h:=ax_ (h:=y_ (m_ (h:=ax_ (h:=y_ (x_ (h:=ax_ (h:=y_ (l_ (h:=ax_ (h:=y_ (m_ (h:=ax_ (h:=y_ (m_ (h:=ax_ (h:=y_ (x_ (h:=ax_ (h:=y_ (l_ (h:=ax_ (h:=y_ (ca (hc:=eq_Rl x y (by omega) (by omega)) (h:=ax_ (h:=y_ (u_ (h:=ax_ (h:=wo_nil (ed (h:=aft_normal (?_)))))))))))))))))))))))))))))))))))))
  refine c_ (h1:=?_) (h2:=?_)
  rotate_right 1
  focus
   intro c2
   refine wc_skip (?_)
  rotate_right 1
  focus
   intro c2
   refine wa_ (wc_region (w_ (a_ (h:=wo_nil (e_ (h:=aft_normal (wc_ret (?_))))))))
  all_goals first | refine blk_normal ?_ | refine blk_ret ?_
  all_goals first
  | refine aft_ret ?_
  | (
   refine aft_normal ?_
   refine wc_region (w_ (m_ (h:=w_ (b_ (h:=w_ (a_ (h:=wo_nil (e_ (h:=?_)))))))))
   )
  )
 all_goals first
 | (refine (ih (i + 1) (by omega) ?_ _ ?_).trans ?_;(focus (first | omega | (simp;done) | (simp;omega)));(focus (simp [normE,hw];done));(focus (simp at c2;rw [d1,d2];simp [c2])))
 | (apply end_leaf (ex:=Ext.ret) 2 (some [4]);(focus (simp [normE];rfl));(focus (simp at c2;rw [d1,d2];simp [c2])))
 | (apply end_leaf (ex:=(Ext.exit 0)) 2 (some [4]);(focus (simp [normE];rfl));(focus (rw [if_pos (by simp [hlm])])))
theorem eq_Rls (l m : List Rl) (h : w_Rls l < 2000000) (h2 : w_Rls m < 2000000) : oc.call 92 [.lst false 0 (rls false l),.lst false 0 (rls false m)] = some (.bool (decide (l = m)),[]) := by
 refine fun_s rfl cd92 rfl rfl rfl (by simp;rfl) (by simp;rfl) ?_
 refine wa_ (wc_region (w_ (a_ (h:=wo_nil (e_ (h:=aft_normal (wa_ (wa_ (wc_region (w_ (m_ (h:=w_ (le (h:=w_ (m_ (h:=w_ (le (h:=w_ (bE (h:=wo_nil (e_ (h:=aft_normal (?_)))))))))))))))))))))))
 refine c_ (h1:=?_) (h2:=?_)
 rotate_right 1
 focus
  intro c1
  simp at c1
  refine wc_skip (?_)
 rotate_right 1
 focus
  intro c1
  simp at c1;have hne : l ≠ m := (by rintro rfl;exact c1 rfl)
  refine wa_ (wc_region (w_ (a_ (h:=wo_nil (e_ (h:=aft_normal (wc_ret (?_))))))))
 all_goals first
 | refine aft_ret ?_
 | (
  refine aft_normal ?_
  refine wa_ (wa_ (wc_region (w_ (a_ (h:=wo_nil (e_ (h:=aft_normal (wc_block (?_)))))))))
  refine wc_loopI (l_eq_Rls l m h h2 (by omega) 0 (by omega) _ (by simp [normE])) ?_ ?_
  rotate_right 1
  focus
   intro c2
   skip
  rotate_right 1
  focus
   intro c2
   skip
  all_goals first | refine blk_ret ?_ | refine blk_exit ?_
  all_goals first
  | refine aft_ret ?_
  | (
   refine aft_normal ?_
   refine wa_ (wc_region (w_ (a_ (h:=wo_nil (e_ (h:=aft_normal (wc_ret (?_))))))))
   )
  )
 all_goals (refine fin_ (hr:=(res_tmp rfl res_nil)) (h:=?_);(focus (first | (simp_all;done) | (simp_all <;> omega) | (simp_all <;> split <;> simp_all <;> omega))))
def w_Wk (x : Wk) : Nat := w_Frs x.inbox + x.counts.length + w_Hds x.nodes + w_Rls x.outs
def bg_Wk (x : Wk) : Prop := bg_Frs x.inbox ∧ x.counts.length ≤ 140737488351232 ∧ bg_Hds x.nodes ∧ bg_Rls x.outs
def w_Wks (l : List Wk) : Nat := l.length + wS w_Wk l
def bg_Wks (l : List Wk) : Prop := l.length ≤ 140737488351232 ∧ ∀ x ∈ l,bg_Wk x
theorem w_Wks_mem {l : List Wk} {x : Wk} (h : x ∈ l) : l.length + w_Wk x ≤ w_Wks l := by
  have := wS_mem (f:=w_Wk) h;unfold w_Wks;omega
theorem w_Wks_len {l : List Wk} : l.length ≤ w_Wks l := by unfold w_Wks;omega
theorem sz_Wk (x : Wk) (a : Int) (hb : bg_Wk x) (ha : 0 ≤ a) (hc : a < 2000000) : oc.call 39 [x.v false,.int .i64 a] = some (.int .i64 (szI (w_Wk x) a),[]) := by
 refine fun_s rfl cd39 rfl rfl rfl (by simp;rfl) (by simp;rfl) ?_
 unfold bg_Wk at hb
 refine wa_ (wc_region (w_ (bx (h:=w_ (a_ (h:=wo_nil (e_ (h:=aft_normal (wa_ (wc_region (w_ (f_ (h:=w_ (l_ (h:=w_ (m_ (h:=w_ (ca (hc:=sz_Frs x.inbox (a) hb.1 (by omega) (by omega)) (h:=w_ (a_ (h:=wo_nil (e_ (h:=aft_normal (wa_ (wa_ (wc_region (w_ (m_ (h:=w_ (b_ (h:=wo_nil (e_ (h:=aft_normal (?_))))))))))))))))))))))))))))))))))
 refine c_ (h1:=?_) (h2:=?_)
 rotate_right 1
 focus
  intro c1
  first
  | exact dn c1
  | (
   have d1 := c1;try simp at d1
   have e1 := szI_pos (n:=w_Frs x.inbox) (a:=a) (by omega)
   refine wc_skip (?_)
   )
 rotate_right 1
 focus
  intro c1
  first
  | exact dn c1
  | (
   have d1 := c1;try simp at d1
   refine wa_ (wc_region (w_ (a_ (h:=wo_nil (e_ (h:=aft_normal (wc_ret (?_))))))))
   )
 all_goals first
 | refine aft_ret ?_
 | (
  refine aft_normal ?_
  refine wa_ (wc_region (w_ (f_ (h:=w_ (l_ (h:=w_ (m_ (h:=w_ (ca (hc:=sz_Cts x.counts (szI (w_Frs x.inbox) (a)) hb.2.1 (by omega) (by omega)) (h:=w_ (a_ (h:=wo_nil (e_ (h:=aft_normal (wa_ (wa_ (wc_region (w_ (m_ (h:=w_ (b_ (h:=wo_nil (e_ (h:=aft_normal (?_)))))))))))))))))))))))))
  refine c_ (h1:=?_) (h2:=?_)
  rotate_right 1
  focus
   intro c2
   first
   | exact dn c2
   | (
    have d2 := c2;try simp at d2
    have e2 := szI_pos (n:=x.counts.length) (a:=szI (w_Frs x.inbox) (a)) (by omega)
    refine wc_skip (?_)
    )
  rotate_right 1
  focus
   intro c2
   first
   | exact dn c2
   | (
    have d2 := c2;try simp at d2
    refine wa_ (wc_region (w_ (a_ (h:=wo_nil (e_ (h:=aft_normal (wc_ret (?_))))))))
    )
  all_goals first
  | refine aft_ret ?_
  | (
   refine aft_normal ?_
   refine wa_ (wc_region (w_ (f_ (h:=w_ (l_ (h:=w_ (m_ (h:=w_ (ca (hc:=sz_Hds x.nodes (szI (x.counts.length) (szI (w_Frs x.inbox) (a))) hb.2.2.1 (by omega) (by omega)) (h:=w_ (a_ (h:=wo_nil (e_ (h:=aft_normal (wa_ (wa_ (wc_region (w_ (m_ (h:=w_ (b_ (h:=wo_nil (e_ (h:=aft_normal (?_)))))))))))))))))))))))))
   refine c_ (h1:=?_) (h2:=?_)
   rotate_right 1
   focus
    intro c3
    first
    | exact dn c3
    | (
     have d3 := c3;try simp at d3
     have e3 := szI_pos (n:=w_Hds x.nodes) (a:=szI (x.counts.length) (szI (w_Frs x.inbox) (a))) (by omega)
     refine wc_skip (?_)
     )
   rotate_right 1
   focus
    intro c3
    first
    | exact dn c3
    | (
     have d3 := c3;try simp at d3
     refine wa_ (wc_region (w_ (a_ (h:=wo_nil (e_ (h:=aft_normal (wc_ret (?_))))))))
     )
   all_goals first
   | refine aft_ret ?_
   | (
    refine aft_normal ?_
    refine wa_ (wc_region (w_ (f_ (h:=w_ (l_ (h:=w_ (m_ (h:=w_ (ca (hc:=sz_Rls x.outs (szI (w_Hds x.nodes) (szI (x.counts.length) (szI (w_Frs x.inbox) (a)))) hb.2.2.2 (by omega) (by omega)) (h:=w_ (a_ (h:=wo_nil (e_ (h:=aft_normal (wa_ (wa_ (wc_region (w_ (m_ (h:=w_ (b_ (h:=wo_nil (e_ (h:=aft_normal (?_)))))))))))))))))))))))))
    refine c_ (h1:=?_) (h2:=?_)
    rotate_right 1
    focus
     intro c4
     first
     | exact dn c4
     | (
      have d4 := c4;try simp at d4
      have e4 := szI_pos (n:=w_Rls x.outs) (a:=szI (w_Hds x.nodes) (szI (x.counts.length) (szI (w_Frs x.inbox) (a)))) (by omega)
      refine wc_skip (?_)
      )
    rotate_right 1
    focus
     intro c4
     first
     | exact dn c4
     | (
      have d4 := c4;try simp at d4
      refine wa_ (wc_region (w_ (a_ (h:=wo_nil (e_ (h:=aft_normal (wc_ret (?_))))))))
      )
    all_goals first
    | refine aft_ret ?_
    | (
     refine aft_normal ?_
     refine wa_ (wc_region (w_ (m_ (h:=w_ (a_ (h:=wo_nil (e_ (h:=aft_normal (wc_ret (?_))))))))))
     )
    )
   )
  )
 all_goals (refine fin_ (hr:=(res_tmp rfl res_nil)) (h:=?_);(focus (simp [w_Wk,szI] at *;grind)))
theorem l_sz_Wks (l : List Wk) (hl : bg_Wks l) : ∀ x : Nat × Int,(x.1 ≤ l.length ∧ 0 ≤ x.2 ∧ x.2 < 2000000) → ∀ s,normE 2 (some [0,1,5]) s = ⟨[(0,.lst false 0 (wks false l)),(1,.int .i64 x.2),(5,.int .i64 x.1)],[],2⟩ →
 oc.loop 17 5 s = some (if 0 ≤ szI (wS w_Wk (l.drop x.1)) x.2 then (.exit 0,⟨[(1,.int .i64 (szI (wS w_Wk (l.drop x.1)) x.2))],[],2⟩) else (.ret,⟨[(1,.int .i64 (-1)),(4,.int .i64 (-1))],[],2⟩)) := by
 refine loop_ind (σ:=Nat × Int) (fun x => l.length - x.1) _ (fun x => ⟨[(0,.lst false 0 (wks false l)),(1,.int .i64 x.2),(5,.int .i64 x.1)],[],2⟩) _ ?_
 rintro ⟨i,a⟩ hi ih s hs
 simp only at hi
 refine loop_s cd17 rfl rfl hs ?_
 refine wa_ (wa_ (wc_region (w_ (m_ (h:=w_ (m_ (h:=w_ (le (h:=w_ (b_ (h:=wo_nil (e_ (h:=aft_normal (?_))))))))))))))
 refine c_ (h1:=?_) (h2:=?_)
 rotate_right 1
 focus
  intro c1
  first
  | exact dn c1
  | (
   have d1 := c1;try simp at d1
   obtain ⟨hi1,hi2,hi3⟩ := hi;have : i = l.length := (by omega);subst this
   refine wc_exit (?_)
   )
 rotate_right 1
 focus
  intro c1
  first
  | exact dn c1
  | (
   have d1 := c1;try simp at d1
   obtain ⟨hi1,hi2,hi3⟩ := hi;have hw := wrap_succ (i:=i) (by have := hl.1;omega);obtain ⟨d,hx,e1,g1⟩ := wks_cut (l:=l) (i:=i) (t:=false) (by omega);have hd := hl.2 d (List.mem_of_getElem? hx)
   refine wc_skip (?_)
   )
 all_goals first
 | refine aft_exit ?_
 | (
  refine aft_normal ?_
  refine wa_ (wc_block (wa_ (wc_region (w_ (m_ (h:=w_ (m_ (h:=w_ (x_ (h:=w_ (l_ (h:=w_ (m_ (h:=w_ (ca (hc:=sz_Wk d a hd (by omega) (by omega)) (h:=w_ (a_ (h:=wo_nil (e_ (h:=aft_normal (wa_ (wc_region (w_ (m_ (h:=w_ (b_ (h:=wo_nil (e_ (h:=aft_normal (?_))))))))))))))))))))))))))))))
  refine c_ (h1:=?_) (h2:=?_)
  rotate_right 1
  focus
   intro c2
   first
   | exact dn c2
   | (
    have d2 := c2;try simp at d2
    refine wc_skip (?_)
    )
  rotate_right 1
  focus
   intro c2
   first
   | exact dn c2
   | (
    have d2 := c2;try simp at d2
    refine wa_ (wc_region (w_ (a_ (h:=wo_nil (e_ (h:=aft_normal (wc_ret (?_))))))))
    )
  all_goals first | refine blk_normal ?_ | refine blk_ret ?_
  all_goals first
  | refine aft_ret ?_
  | (
   refine aft_normal ?_
   refine wc_region (w_ (m_ (h:=w_ (b_ (h:=w_ (a_ (h:=wo_nil (e_ (h:=?_)))))))))
   )
  )
 all_goals first
 | (refine (ih ((i + 1,szI (w_Wk d) a)) (⟨by simp;omega,by simp;omega,by have := szI_le0 (n:=w_Wk d) (a:=a) (by omega);simp;omega⟩) ?_ _ ?_).trans ?_;(focus (first | omega | (simp;done) | (simp;omega)));(focus (simp [normE,hw];done));(focus (simp only [e1,wS_cons];rw [szI_seq (by omega)])))
 | (apply end_leaf (ex:=Ext.ret) 2 (some [1,4]);(focus (simp [normE];rfl));(focus (simp only [e1,wS_cons];rw [szI_stop (by omega) (by omega)];simp;have := szI_neg (c:=w_Wk d) (a:=a) (by omega);simp [this])))
 | (apply end_leaf (ex:=(Ext.exit 0)) 2 (some [1,4]);(focus (simp [normE];rfl));(focus (have e0 : szI 0 a = a := (by unfold szI;rw [if_neg (by omega)];simp);simp [e0,hi2])))
theorem sz_Wks (l : List Wk) (a : Int) (hb : bg_Wks l) (ha : 0 ≤ a) (hc : a < 2000000) : oc.call 17 [.lst false 0 (wks false l),.int .i64 a] = some (.int .i64 (szI (w_Wks l) a),[]) := by
 refine fun_s rfl cd17 rfl rfl rfl (by simp;rfl) (by simp;rfl) ?_
 have hb1 := hb.1
 have hw : IntKind.i64.wrap (a - l.length) = a - l.length := wrap_id (by omega) (by omega)
 refine wa_ (wc_region (w_ (a_ (h:=wo_nil (e_ (h:=aft_normal (wa_ (wc_region (w_ (m_ (h:=w_ (m_ (h:=w_ (le (h:=w_ (b_ (h:=w_ (a_ (h:=wo_nil (e_ (h:=aft_normal (wa_ (wa_ (wc_region (w_ (m_ (h:=w_ (b_ (h:=wo_nil (e_ (h:=aft_normal (?_))))))))))))))))))))))))))))))))
 refine c_ (h1:=?_) (h2:=?_)
 rotate_right 1
 focus
  intro c1
  first
  | exact dn c1
  | (
   have d1 := c1;try simp at d1
   simp only [hw] at d1;have e1 : szI l.length a = a - l.length := (by unfold szI;rw [if_neg (by omega)])
   refine wc_skip (?_)
   )
 rotate_right 1
 focus
  intro c1
  first
  | exact dn c1
  | (
   have d1 := c1;try simp at d1
   refine wa_ (wc_region (w_ (a_ (h:=wo_nil (e_ (h:=aft_normal (wc_ret (?_))))))))
   )
 all_goals first
 | refine aft_ret ?_
 | (
  refine aft_normal ?_
  refine wa_ (wa_ (wc_region (w_ (a_ (h:=wo_nil (e_ (h:=aft_normal (wc_block (?_)))))))))
  refine wc_loopI (l_sz_Wks l hb (0,a - l.length) ⟨by simp,by simp;omega,by simp;omega⟩ _ (by simp [normE,hw])) ?_ ?_
  rotate_right 1
  focus
   intro c2
   first
   | exact dn c2
   | (
    have d2 := c2;try simp at d2
    skip
    )
  rotate_right 1
  focus
   intro c2
   first
   | exact dn c2
   | (
    have d2 := c2;try simp at d2
    skip
    )
  all_goals first | refine blk_ret ?_ | refine blk_exit ?_
  all_goals first
  | refine aft_ret ?_
  | (
   refine aft_normal ?_
   refine wa_ (wc_region (w_ (m_ (h:=w_ (a_ (h:=wo_nil (e_ (h:=aft_normal (wc_ret (?_))))))))))
   )
  )
 all_goals (refine fin_ (hr:=(res_tmp rfl res_nil)) (h:=?_);(focus (simp [w_Wks,szI,hw] at *;grind)))
theorem to_Wk (x : Wk) (h : w_Wk x < 2000000) : oc.call 45 [x.v false] = some (x.v true,[]) := by
 refine fun_s rfl cd45 rfl rfl rfl (by simp;rfl) (by simp;rfl) ?_
 unfold w_Wk at h
 refine wa_ (wc_region (w_ (bx (h:=w_ (al (h:=wo_nil (e_ (h:=aft_normal (wa_ (wc_region (w_ (al (h:=wo_nil (e_ (h:=aft_normal (wa_ (wc_region (w_ (f_ (h:=w_ (l_ (h:=w_ (ca (hc:=to_Frs x.inbox (by omega)) (h:=w_ (f_ (h:=w0 (s_ (h:=wo_nil (e_ (h:=aft_normal (wa_ (wc_region (w_ (f_ (h:=w_ (l_ (h:=w_ (ca (hc:=to_Cts x.counts (by omega)) (h:=w_ (f_ (h:=w0 (s_ (h:=wo_nil (e_ (h:=aft_normal (wa_ (?_)))))))))))))))))))))))))))))))))))))))))))))))
 refine wc_region (w_ (f_ (h:=w_ (l_ (h:=w_ (ca (hc:=to_Hds x.nodes (by omega)) (h:=w_ (f_ (h:=w0 (s_ (h:=wo_nil (e_ (h:=aft_normal (wa_ (wc_region (w_ (f_ (h:=w_ (l_ (h:=w_ (f_ (h:=w0 (s_ (h:=wo_nil (e_ (h:=aft_normal (wa_ (wc_region (w_ (f_ (h:=w_ (l_ (h:=w_ (f_ (h:=w0 (s_ (h:=wo_nil (e_ (h:=aft_normal (wa_ (wc_region (w_ (f_ (h:=w_ (l_ (h:=w_ (ca (hc:=to_Rls x.outs (by omega)) (h:=w_ (f_ (h:=?_))))))))))))))))))))))))))))))))))))))))))))))))))
 refine w0 (s_ (h:=wo_nil (e_ (h:=aft_normal (wa_ (wc_region (w_ (f_ (h:=w_ (l_ (h:=w_ (f_ (h:=w0 (s_ (h:=wo_nil (e_ (h:=aft_normal (wa_ (wc_region (w_ (l_ (h:=w0 (s_ (h:=wo_nil (e_ (h:=aft_normal (wc_ret (?_))))))))))))))))))))))))))))
 all_goals (refine fin_ (hr:=(res_cell (tys_ok.zero _ _ rfl) rfl (by simp;rfl) (by rfl) res_nil)) (h:=?_);(focus (simp [Wk.v])))
theorem l_to_Wks (l : List Wk) (h : w_Wks l < 2000000) : ∀ x : Nat × (List Wk),(x.1 ≤ l.length ∧ x.2.length = l.length ∧ x.2.take x.1 = l.take x.1) → ∀ s,normE 1 (some [0,3,4]) s = ⟨[(0,.lst false 0 (wks false l)),(3,.ref 1 0 l.length),(4,.int .i64 x.1)],[(1,⟨false,false,7,wks true x.2,0⟩)],2⟩ →
 oc.loop 21 3 s = some (.exit 0,⟨[(3,.ref 1 0 l.length)],[(1,⟨false,false,7,wks true l,0⟩)],2⟩) := by
 refine loop_ind (σ:=Nat × (List Wk)) (fun x => l.length - x.1) _ (fun x => ⟨[(0,.lst false 0 (wks false l)),(3,.ref 1 0 l.length),(4,.int .i64 x.1)],[(1,⟨false,false,7,wks true x.2,0⟩)],2⟩) _ ?_
 rintro ⟨i,r⟩ hi ih s hs
 simp only at hi
 refine loop_s cd21 rfl rfl hs ?_
 obtain ⟨hi1,hi2,hi3⟩ := hi
 have hlen := w_Wks_len (l:=l)
 refine wa_ (wa_ (wc_region (w_ (m_ (h:=w_ (m_ (h:=w_ (le (h:=w_ (b_ (h:=wo_nil (e_ (h:=aft_normal (?_))))))))))))))
 refine c_ (h1:=?_) (h2:=?_)
 rotate_right 1
 focus
  intro c1
  simp at c1;have : i = l.length := (by omega);subst this;rw [← hi2] at hi3;simp at hi3;rw [hi2] at hi3;simp at hi3;subst hi3
  refine wc_exit (?_)
 rotate_right 1
 focus
  intro c1
  simp at c1;have hw := wrap_succ (i:=i) (by omega);obtain ⟨d,hx,d1,g1⟩ := wks_cut (t:=false) c1;have hd := w_Wks_mem (List.mem_of_getElem? hx);obtain ⟨y,hy,_,g2⟩ := wks_cut (t:=true) (l:=r) (i:=i) (by omega);simp at g2
  refine wc_skip (?_)
 all_goals first
 | refine aft_exit ?_
 | (
  refine aft_normal ?_
  refine wa_ (wc_block (wc_region (w_ (m_ (h:=w_ (m_ (h:=w_ (m_ (h:=w_ (m_ (h:=w_ (x_ (h:=w_ (l_ (h:=w_ (ca (hc:=to_Wk d (by omega)) (h:=w_ (x_ (h:=w0 (s_ (h:=wo_nil (e_ (h:=blk_normal (aft_normal (wc_region (w_ (m_ (h:=w_ (b_ (h:=w_ (a_ (h:=wo_nil (e_ (h:=?_))))))))))))))))))))))))))))))))))
  )
 all_goals first
 | (refine (ih ((i + 1,r.set i d)) (⟨by simp;omega,by simpa using hi2,set_take hi3 hi2 hx⟩) ?_ _ ?_).trans ?_;(focus (first | omega | (simp;done) | (simp;omega)));(focus (simp [normE,hw];done));(focus (rfl)))
 | (apply end_leaf (ex:=(Ext.exit 0)) 1 (some [3]);(focus (simp [normE];rfl));(focus (simp)))
theorem to_Wks (l : List Wk) (h : w_Wks l < 2000000) : oc.call 21 [.lst false 0 (wks false l)] = some (.lst true 7 (wks true l),[]) := by
 refine fun_s rfl cd21 rfl rfl rfl (by simp;rfl) (by simp;rfl) ?_
 have hlen := w_Wks_len (l:=l)
 refine wa_ (wc_region (w_ (aN (h:=wo_nil (e_ (h:=aft_normal (wa_ (wc_region (w_ (m_ (h:=w_ (le (h:=w_ (mk (h:=w_ (a_ (h:=wo_nil (e_ (h:=aft_normal (wa_ (wa_ (wc_region (w_ (a_ (h:=wo_nil (e_ (h:=aft_normal (wc_block (?_)))))))))))))))))))))))))))))
 refine wc_loop (l_to_Wks l h (0,List.replicate l.length ⟨[],[],[],0,0,[],false⟩) (by simp) _ (by simp [normE,wks_zero])) ?_
 refine blk_exit (aft_normal (wa_ (wc_region (w_ (m_ (h:=w_ (a_ (h:=wo_nil (e_ (h:=aft_normal (wc_ret (?_))))))))))))
 all_goals (refine fin_ (hr:=(res_tmp rfl res_nil)) (h:=?_);(focus (first | (simp_all;done) | (simp_all <;> omega) | (simp_all <;> split <;> simp_all <;> omega))))
theorem eq_Wk (x y : Wk) (h : w_Wk x < 2000000) (h2 : w_Wk y < 2000000) : oc.call 57 [x.v false,y.v false] = some (.bool (decide (x = y)),[]) := by
 refine fun_s rfl cd57 rfl rfl rfl (by simp;rfl) (by simp;rfl) ?_
 unfold w_Wk at h h2
 refine wa_ (wc_region (w_ (bx (h:=w_ (bx (h:=w_ (a_ (h:=wo_nil (e_ (h:=aft_normal (wa_ (wa_ (wc_region (w_ (f_ (h:=w_ (l_ (h:=w_ (f_ (h:=w_ (l_ (h:=w_ (ca (hc:=eq_Frs x.inbox y.inbox (by omega) (by omega)) (h:=w_ (u_ (h:=wo_nil (e_ (h:=aft_normal (?_)))))))))))))))))))))))))))))
 refine c_ (h1:=?_) (h2:=?_)
 rotate_right 1
 focus
  intro c1
  refine wc_skip (?_)
 rotate_right 1
 focus
  intro c1
  refine wa_ (wc_region (w_ (a_ (h:=wo_nil (e_ (h:=aft_normal (wc_ret (?_))))))))
 all_goals first
 | refine aft_ret ?_
 | (
  refine aft_normal ?_
  refine wa_ (wa_ (wc_region (w_ (f_ (h:=w_ (l_ (h:=w_ (f_ (h:=w_ (l_ (h:=w_ (ca (hc:=eq_Cts x.counts y.counts (by omega) (by omega)) (h:=w_ (u_ (h:=wo_nil (e_ (h:=aft_normal (?_))))))))))))))))))
  refine c_ (h1:=?_) (h2:=?_)
  rotate_right 1
  focus
   intro c2
   refine wc_skip (?_)
  rotate_right 1
  focus
   intro c2
   refine wa_ (wc_region (w_ (a_ (h:=wo_nil (e_ (h:=aft_normal (wc_ret (?_))))))))
  all_goals first
  | refine aft_ret ?_
  | (
   refine aft_normal ?_
   refine wa_ (wa_ (wc_region (w_ (f_ (h:=w_ (l_ (h:=w_ (f_ (h:=w_ (l_ (h:=w_ (ca (hc:=eq_Hds x.nodes y.nodes (by omega) (by omega)) (h:=w_ (u_ (h:=wo_nil (e_ (h:=aft_normal (?_))))))))))))))))))
   refine c_ (h1:=?_) (h2:=?_)
   rotate_right 1
   focus
    intro c3
    refine wc_skip (?_)
   rotate_right 1
   focus
    intro c3
    refine wa_ (wc_region (w_ (a_ (h:=wo_nil (e_ (h:=aft_normal (wc_ret (?_))))))))
   all_goals first
   | refine aft_ret ?_
   | (
    refine aft_normal ?_
    refine wa_ (wa_ (wc_region (w_ (f_ (h:=w_ (l_ (h:=w_ (f_ (h:=w_ (l_ (h:=w_ (bE (h:=wo_nil (e_ (h:=aft_normal (?_))))))))))))))))
    refine c_ (h1:=?_) (h2:=?_)
    rotate_right 1
    focus
     intro c4
     refine wc_skip (?_)
    rotate_right 1
    focus
     intro c4
     refine wa_ (wc_region (w_ (a_ (h:=wo_nil (e_ (h:=aft_normal (wc_ret (?_))))))))
    all_goals first
    | refine aft_ret ?_
    | (
     refine aft_normal ?_
     refine wa_ (wa_ (wc_region (w_ (f_ (h:=w_ (l_ (h:=w_ (f_ (h:=w_ (l_ (h:=w_ (bE (h:=wo_nil (e_ (h:=aft_normal (?_))))))))))))))))
     refine c_ (h1:=?_) (h2:=?_)
     rotate_right 1
     focus
      intro c5
      refine wc_skip (?_)
     rotate_right 1
     focus
      intro c5
      refine wa_ (wc_region (w_ (a_ (h:=wo_nil (e_ (h:=aft_normal (wc_ret (?_))))))))
     all_goals first
     | refine aft_ret ?_
     | (
      refine aft_normal ?_
      refine wa_ (wa_ (wc_region (w_ (f_ (h:=w_ (l_ (h:=w_ (f_ (h:=w_ (l_ (h:=w_ (ca (hc:=eq_Rls x.outs y.outs (by omega) (by omega)) (h:=w_ (u_ (h:=wo_nil (e_ (h:=aft_normal (?_))))))))))))))))))
      refine c_ (h1:=?_) (h2:=?_)
      rotate_right 1
      focus
       intro c6
       refine wc_skip (?_)
      rotate_right 1
      focus
       intro c6
       refine wa_ (wc_region (w_ (a_ (h:=wo_nil (e_ (h:=aft_normal (wc_ret (?_))))))))
      all_goals first
      | refine aft_ret ?_
      | (
       refine aft_normal ?_
       refine wa_ (wa_ (wc_region (w_ (f_ (h:=w_ (l_ (h:=w_ (f_ (h:=w_ (l_ (h:=w_ (bE (h:=wo_nil (e_ (h:=aft_normal (?_))))))))))))))))
       refine c_ (h1:=?_) (h2:=?_)
       rotate_right 1
       focus
        intro c7
        refine wc_skip (?_)
       rotate_right 1
       focus
        intro c7
        refine wa_ (wc_region (w_ (a_ (h:=wo_nil (e_ (h:=aft_normal (wc_ret (?_))))))))
       all_goals first
       | refine aft_ret ?_
       | (
        refine aft_normal ?_
        refine wa_ (wc_region (w_ (a_ (h:=wo_nil (e_ (h:=aft_normal (wc_ret (?_))))))))
        )
       )
      )
     )
    )
   )
  )
 all_goals (refine fin_ (hr:=(res_tmp rfl res_nil)) (h:=?_);(focus (first | (simp_all [Wk.eq_iff];done) | (simp [Wk.eq_iff] at *;grind))))
theorem l_eq_Wks (l m : List Wk) (h : w_Wks l < 2000000) (h2 : w_Wks m < 2000000) (hlm : l.length = m.length) : ∀ i : Nat,(i ≤ l.length) → ∀ s,normE 2 (some [0,1,5]) s = ⟨[(0,.lst false 0 (wks false l)),(1,.lst false 0 (wks false m)),(5,.int .i64 i)],[],2⟩ →
 oc.loop 26 4 s = some (if l.drop i = m.drop i then (.exit 0,⟨[],[],2⟩) else (.ret,⟨[(4,.bool false)],[],2⟩)) := by
 refine loop_ind (σ:=Nat) (fun i => l.length - i) _ (fun i => ⟨[(0,.lst false 0 (wks false l)),(1,.lst false 0 (wks false m)),(5,.int .i64 i)],[],2⟩) _ ?_
 intro i hi ih s hs
 refine loop_s cd26 rfl rfl hs ?_
 have hl1 := w_Wks_len (l:=l)
 refine wa_ (wa_ (wc_region (w_ (m_ (h:=w_ (m_ (h:=w_ (le (h:=w_ (b_ (h:=wo_nil (e_ (h:=aft_normal (?_))))))))))))))
 refine c_ (h1:=?_) (h2:=?_)
 rotate_right 1
 focus
  intro c1
  simp at c1;have : i = l.length := (by omega);subst this
  refine wc_exit (?_)
 rotate_right 1
 focus
  intro c1
  simp at c1;have hw := wrap_succ (i:=i) (by omega);obtain ⟨x,hx,d1,g1⟩ := wks_cut (t:=false) c1;obtain ⟨y,hy,d2,g2⟩ := wks_cut (t:=false) (l:=m) (i:=i) (by omega);have m1 := w_Wks_mem (List.mem_of_getElem? hx);have m2 := w_Wks_mem (List.mem_of_getElem? hy)
  refine wc_skip (?_)
 all_goals first
 | refine aft_exit ?_
 | (
  refine aft_normal ?_
  refine wa_ (wc_block (wa_ (wc_draw (y_ (m_ (h:=ax_ (h:=y_ (m_ (h:=ax_ (h:=y_ (x_ (h:=ax_ (h:=y_ (l_ (h:=ax_ (h:=y_ (m_ (h:=ax_ (h:=y_ (m_ (h:=ax_ (h:=y_ (x_ (h:=ax_ (h:=y_ (l_ (h:=ax_ (h:=y_ (ca (hc:=eq_Wk x y (by omega) (by omega)) (h:=ax_ (h:=y_ (u_ (h:=ax_ (h:=wo_nil (ed (h:=aft_normal (?_)))))))))))))))))))))))))))))))))))))
  refine c_ (h1:=?_) (h2:=?_)
  rotate_right 1
  focus
   intro c2
   refine wc_skip (?_)
  rotate_right 1
  focus
   intro c2
   refine wa_ (wc_region (w_ (a_ (h:=wo_nil (e_ (h:=aft_normal (wc_ret (?_))))))))
  all_goals first | refine blk_normal ?_ | refine blk_ret ?_
  all_goals first
  | refine aft_ret ?_
  | (
   refine aft_normal ?_
   refine wc_region (w_ (m_ (h:=w_ (b_ (h:=w_ (a_ (h:=wo_nil (e_ (h:=?_)))))))))
   )
  )
 all_goals first
 | (refine (ih (i + 1) (by omega) ?_ _ ?_).trans ?_;(focus (first | omega | (simp;done) | (simp;omega)));(focus (simp [normE,hw];done));(focus (simp at c2;rw [d1,d2];simp [c2])))
 | (apply end_leaf (ex:=Ext.ret) 2 (some [4]);(focus (simp [normE];rfl));(focus (simp at c2;rw [d1,d2];simp [c2])))
 | (apply end_leaf (ex:=(Ext.exit 0)) 2 (some [4]);(focus (simp [normE];rfl));(focus (rw [if_pos (by simp [hlm])])))
theorem eq_Wks (l m : List Wk) (h : w_Wks l < 2000000) (h2 : w_Wks m < 2000000) : oc.call 26 [.lst false 0 (wks false l),.lst false 0 (wks false m)] = some (.bool (decide (l = m)),[]) := by
 refine fun_s rfl cd26 rfl rfl rfl (by simp;rfl) (by simp;rfl) ?_
 refine wa_ (wc_region (w_ (a_ (h:=wo_nil (e_ (h:=aft_normal (wa_ (wa_ (wc_region (w_ (m_ (h:=w_ (le (h:=w_ (m_ (h:=w_ (le (h:=w_ (bE (h:=wo_nil (e_ (h:=aft_normal (?_)))))))))))))))))))))))
 refine c_ (h1:=?_) (h2:=?_)
 rotate_right 1
 focus
  intro c1
  simp at c1
  refine wc_skip (?_)
 rotate_right 1
 focus
  intro c1
  simp at c1;have hne : l ≠ m := (by rintro rfl;exact c1 rfl)
  refine wa_ (wc_region (w_ (a_ (h:=wo_nil (e_ (h:=aft_normal (wc_ret (?_))))))))
 all_goals first
 | refine aft_ret ?_
 | (
  refine aft_normal ?_
  refine wa_ (wa_ (wc_region (w_ (a_ (h:=wo_nil (e_ (h:=aft_normal (wc_block (?_)))))))))
  refine wc_loopI (l_eq_Wks l m h h2 (by omega) 0 (by omega) _ (by simp [normE])) ?_ ?_
  rotate_right 1
  focus
   intro c2
   skip
  rotate_right 1
  focus
   intro c2
   skip
  all_goals first | refine blk_ret ?_ | refine blk_exit ?_
  all_goals first
  | refine aft_ret ?_
  | (
   refine aft_normal ?_
   refine wa_ (wc_region (w_ (a_ (h:=wo_nil (e_ (h:=aft_normal (wc_ret (?_))))))))
   )
  )
 all_goals (refine fin_ (hr:=(res_tmp rfl res_nil)) (h:=?_);(focus (first | (simp_all;done) | (simp_all <;> omega) | (simp_all <;> split <;> simp_all <;> omega))))
theorem oc_ok : CallOK Tryz.prog oc.call := by
  unfold oc
  exact or_sound (by kernel_rfl) tb
def i64ok (m : Int) : Prop := -9223372036854775808 ≤ m ∧ m ≤ 9223372036854775807
theorem dInt {n : Nat} {v : V} (h : hasT Tryz.prog (n + 1) 2 v) : ∃ m,v = .int .i64 m ∧ i64ok m := by
  obtain ⟨m,e,h1,h2⟩ := dec_int Tryz.underlying2 h
  exact ⟨m,e,by simpa [i64ok,IntKind.min,IntKind.max,IntKind.signed,IntKind.bits] using ⟨h1,h2⟩⟩
theorem dInts {n : Nat} {v : V} (h : hasT Tryz.prog (n + 2) 65 v) : ∃ l,v = .lst false 0 (ints l) ∧ l.length ≤ 140737488351232 ∧ ∀ m ∈ l,i64ok m := by
  obtain ⟨xs,e,h1,h2⟩ := dec_slice Tryz.underlying65 h
  obtain ⟨l,e2,h3⟩ := dec_list (f:=fun m => V.int .i64 m) (p:=i64ok) (fun x hx => dInt (h2 x hx))
  exact ⟨l,by rw [e,e2];rfl,by rw [e2] at h1;simpa using h1,h3⟩
theorem dNode {n : Nat} {v : V} (h : hasT Tryz.prog (n + 3) 74 v) : ∃ d : Nd,v = d.v false 0 ∧ d.cells.length ≤ 140737488351232 := by
  obtain ⟨xs,e,x1,q1,rfl,t1,x2,q2,rfl,t2,x3,q3,rfl,t3,x4,q4,rfl,t4,x5,q5,rfl,t5,x6,q6,rfl,t6,x7,q7,rfl,t7,hq⟩ := dec_struct Tryz.underlying74 h
  obtain ⟨a1,rfl,_⟩ := dInt t1;obtain ⟨a2,rfl,_⟩ := dInt t2;obtain ⟨a3,rfl,_⟩ := dInt t3;obtain ⟨a4,rfl,_⟩ := dInt t4;obtain ⟨a5,rfl,_⟩ := dInt t5;obtain ⟨a6,rfl,_⟩ := dInt t6
  obtain ⟨l,rfl,hl,_⟩ := dInts t7
  simp only [List.map_nil,hasL] at hq
  subst hq
  exact ⟨⟨a1,a2,a3,a4,a5,a6,l⟩,e,hl⟩
theorem dNodes {n : Nat} {v : V} (h : hasT Tryz.prog (n + 4) 22 v) : ∃ l,v = .lst false 0 (nds false 0 l) ∧ okB l := by
  obtain ⟨xs,e,h1,h2⟩ := dec_slice Tryz.underlying22 h
  obtain ⟨l,e2,h3⟩ := dec_list (f:=Nd.v false 0) (p:=fun d => d.cells.length ≤ 140737488351232) (fun x hx => dNode (h2 x hx))
  exact ⟨l,by rw [e,e2];rfl,by rw [e2] at h1;simpa using h1,h3⟩
theorem dCt {n : Nat} {v : V} (h : hasT Tryz.prog (n + 2) 156 v) : ∃ d : Ct,v = d.v := by
  obtain ⟨xs,e,x0,q0,rfl,t0,x1,q1,rfl,t1,x2,q2,rfl,t2,hq⟩ := dec_struct Tryz.underlying156 h
  obtain ⟨a0,rfl,_⟩ := dInt t0
  obtain ⟨a1,rfl,_⟩ := dInt t1
  obtain ⟨a2,rfl,_⟩ := dInt t2
  simp only [List.map_nil,hasL] at hq
  subst hq
  exact ⟨⟨a0,a1,a2⟩,e⟩
theorem dCts {n : Nat} {v : V} (h : hasT Tryz.prog (n + 3) 77 v) : ∃ l,v = .lst false 0 (cts l) ∧ l.length ≤ 140737488351232 := by
  obtain ⟨xs,e,h1,h2⟩ := dec_slice Tryz.underlying77 h
  obtain ⟨l,e2,_⟩ := dec_list (f:=Ct.v) (p:=fun _ => True) (fun x hx => by obtain ⟨d,hd⟩ := dCt (h2 x hx);exact ⟨d,hd,trivial⟩)
  exact ⟨l,by rw [e,e2];rfl,by rw [e2] at h1;simpa using h1⟩
theorem dEt {n : Nat} {v : V} (h : hasT Tryz.prog (n + 3) 172 v) : ∃ d : Et,v = d.v false ∧ bg_Et d := by
  obtain ⟨xs,e,x0,q0,rfl,t0,x1,q1,rfl,t1,hq⟩ := dec_struct Tryz.underlying172 h
  obtain ⟨a0,rfl,b0,_⟩ := dInts t0
  obtain ⟨a1,rfl,_⟩ := dInt t1
  simp only [List.map_nil,hasL] at hq
  subst hq
  exact ⟨⟨a0,a1⟩,e,b0⟩
theorem dEts {n : Nat} {v : V} (h : hasT Tryz.prog (n + 4) 113 v) : ∃ l,v = .lst false 0 (ets false l) ∧ bg_Ets l := by
  obtain ⟨xs,e,h1,h2⟩ := dec_slice Tryz.underlying113 h
  obtain ⟨l,e2,h3⟩ := dec_list (f:=Et.v false) (p:=bg_Et) (fun x hx => dEt (h2 x hx))
  exact ⟨l,by rw [e,e2];rfl,by rw [e2] at h1;simpa using h1,h3⟩
theorem dFr {n : Nat} {v : V} (h : hasT Tryz.prog (n + 5) 115 v) : ∃ d : Fr,v = d.v false ∧ bg_Fr d := by
  obtain ⟨xs,e,x0,q0,rfl,t0,x1,q1,rfl,t1,x2,q2,rfl,t2,x3,q3,rfl,t3,x4,q4,rfl,t4,x5,q5,rfl,t5,hq⟩ := dec_struct Tryz.underlying115 h
  obtain ⟨a0,rfl,_⟩ := dInt t0
  obtain ⟨a1,rfl,_⟩ := dInt t1
  obtain ⟨a2,rfl,_⟩ := dInt t2
  obtain ⟨a3,rfl,_⟩ := dInt t3
  obtain ⟨a4,rfl,b4⟩ := dEts t4
  obtain ⟨a5,rfl,b5⟩ := dCts t5
  simp only [List.map_nil,hasL] at hq
  subst hq
  exact ⟨⟨a0,a1,a2,a3,a4,a5⟩,e,⟨b4,b5⟩⟩
theorem dFrs {n : Nat} {v : V} (h : hasT Tryz.prog (n + 6) 76 v) : ∃ l,v = .lst false 0 (frs false l) ∧ bg_Frs l := by
  obtain ⟨xs,e,h1,h2⟩ := dec_slice Tryz.underlying76 h
  obtain ⟨l,e2,h3⟩ := dec_list (f:=Fr.v false) (p:=bg_Fr) (fun x hx => dFr (h2 x hx))
  exact ⟨l,by rw [e,e2];rfl,by rw [e2] at h1;simpa using h1,h3⟩
theorem dBt {n : Nat} {v : V} (h : hasT Tryz.prog (n + 5) 183 v) : ∃ d : Bt,v = d.v false ∧ bg_Bt d := by
  obtain ⟨xs,e,x0,q0,rfl,t0,x1,q1,rfl,t1,x2,q2,rfl,t2,hq⟩ := dec_struct Tryz.underlying183 h
  obtain ⟨a0,rfl,_⟩ := dInt t0
  obtain ⟨a1,rfl,_⟩ := dInt t1
  obtain ⟨a2,rfl,b2⟩ := dEts t2
  simp only [List.map_nil,hasL] at hq
  subst hq
  exact ⟨⟨a0,a1,a2⟩,e,b2⟩
theorem dBts {n : Nat} {v : V} (h : hasT Tryz.prog (n + 6) 141 v) : ∃ l,v = .lst false 0 (bts false l) ∧ bg_Bts l := by
  obtain ⟨xs,e,h1,h2⟩ := dec_slice Tryz.underlying141 h
  obtain ⟨l,e2,h3⟩ := dec_list (f:=Bt.v false) (p:=bg_Bt) (fun x hx => dBt (h2 x hx))
  exact ⟨l,by rw [e,e2];rfl,by rw [e2] at h1;simpa using h1,h3⟩
theorem dHd {n : Nat} {v : V} (h : hasT Tryz.prog (n + 7) 143 v) : ∃ d : Hd,v = d.v false ∧ bg_Hd d := by
  obtain ⟨xs,e,x0,q0,rfl,t0,x1,q1,rfl,t1,x2,q2,rfl,t2,x3,q3,rfl,t3,hq⟩ := dec_struct Tryz.underlying143 h
  obtain ⟨a0,rfl,b0⟩ := dEts t0
  obtain ⟨a1,rfl,b1⟩ := dEts t1
  obtain ⟨a2,rfl,b2⟩ := dBts t2
  obtain ⟨a3,rfl,_⟩ := dInt t3
  simp only [List.map_nil,hasL] at hq
  subst hq
  exact ⟨⟨a0,a1,a2,a3⟩,e,⟨b0,b1,b2⟩⟩
theorem dHds {n : Nat} {v : V} (h : hasT Tryz.prog (n + 8) 78 v) : ∃ l,v = .lst false 0 (hds false l) ∧ bg_Hds l := by
  obtain ⟨xs,e,h1,h2⟩ := dec_slice Tryz.underlying78 h
  obtain ⟨l,e2,h3⟩ := dec_list (f:=Hd.v false) (p:=bg_Hd) (fun x hx => dHd (h2 x hx))
  exact ⟨l,by rw [e,e2];rfl,by rw [e2] at h1;simpa using h1,h3⟩
theorem dRl {n : Nat} {v : V} (h : hasT Tryz.prog (n + 5) 146 v) : ∃ d : Rl,v = d.v false ∧ bg_Rl d := by
  obtain ⟨xs,e,x0,q0,rfl,t0,x1,q1,rfl,t1,x2,q2,rfl,t2,hq⟩ := dec_struct Tryz.underlying146 h
  obtain ⟨a0,rfl,_⟩ := dInt t0
  obtain ⟨a1,rfl,_⟩ := dInt t1
  obtain ⟨a2,rfl,b2⟩ := dEts t2
  simp only [List.map_nil,hasL] at hq
  subst hq
  exact ⟨⟨a0,a1,a2⟩,e,b2⟩
theorem dRls {n : Nat} {v : V} (h : hasT Tryz.prog (n + 6) 79 v) : ∃ l,v = .lst false 0 (rls false l) ∧ bg_Rls l := by
  obtain ⟨xs,e,h1,h2⟩ := dec_slice Tryz.underlying79 h
  obtain ⟨l,e2,h3⟩ := dec_list (f:=Rl.v false) (p:=bg_Rl) (fun x hx => dRl (h2 x hx))
  exact ⟨l,by rw [e,e2];rfl,by rw [e2] at h1;simpa using h1,h3⟩
theorem dWk {n : Nat} {v : V} (h : hasT Tryz.prog (n + 9) 81 v) : ∃ d : Wk,v = d.v false ∧ bg_Wk d := by
  obtain ⟨xs,e,x0,q0,rfl,t0,x1,q1,rfl,t1,x2,q2,rfl,t2,x3,q3,rfl,t3,x4,q4,rfl,t4,x5,q5,rfl,t5,x6,q6,rfl,t6,hq⟩ := dec_struct Tryz.underlying81 h
  obtain ⟨a0,rfl,b0⟩ := dFrs t0
  obtain ⟨a1,rfl,b1⟩ := dCts t1
  obtain ⟨a2,rfl,b2⟩ := dHds t2
  obtain ⟨a3,rfl,_⟩ := dInt t3
  obtain ⟨a4,rfl,_⟩ := dInt t4
  obtain ⟨a5,rfl,b5⟩ := dRls t5
  obtain ⟨a6,rfl⟩ := dec_bool Tryz.underlying4 t6
  simp only [List.map_nil,hasL] at hq
  subst hq
  exact ⟨⟨a0,a1,a2,a3,a4,a5,a6⟩,e,⟨b0,b1,b2,b5⟩⟩
theorem dWks {n : Nat} {v : V} (h : hasT Tryz.prog (n + 10) 23 v) : ∃ l,v = .lst false 0 (wks false l) ∧ bg_Wks l := by
  obtain ⟨xs,e,h1,h2⟩ := dec_slice Tryz.underlying23 h
  obtain ⟨l,e2,h3⟩ := dec_list (f:=Wk.v false) (p:=bg_Wk) (fun x hx => dWk (h2 x hx))
  exact ⟨l,by rw [e,e2];rfl,by rw [e2] at h1;simpa using h1,h3⟩
end Go.Proofs.YtadaeiahfidodaaGreat.Ev
namespace Go.Proofs.YtadaeiahfidodaaGreat.Ev
open Go
set_option maxRecDepth 100000
set_option linter.unusedSimpArgs false
set_option linter.unusedVariables false
set_option maxHeartbeats 2000000
theorem l_eqG (a b : List Int) (z z' : Nat) (ha : a.length < 4000000000) (hab : a.length = b.length) : ∀ i : Nat,i ≤ a.length → ∀ s,normE 2 (some [0,1,12,13]) s = ⟨[(0,.lst false z (ints a)),(1,.lst false z' (ints b)),(12,.int .i64 a.length),(13,.int .i64 i)],[],2⟩ →
 oc.loop 111 4 s = some (if a.drop i = b.drop i then (.exit 0,⟨[],[],2⟩) else (.ret,⟨[(4,.bool false)],[],2⟩)) := by
 refine loop_ind (fun i => a.length - i) _ (fun i => ⟨[(0,.lst false z (ints a)),(1,.lst false z' (ints b)),(12,.int .i64 a.length),(13,.int .i64 i)],[],2⟩) _ ?_
 intro i hi ih s hs
 refine loop_s cd111 rfl rfl hs ?_
 refine wa_ (wc_region (w_ (b_ (h:=wo_nil (e_ (h:=aft_normal (wa_ (?_))))))))
 refine c_ (h1:=?_) (h2:=?_)
 rotate_right 1
 focus
  intro c1
  simp at c1;have : i = a.length := (by omega);subst this
  refine wc_exit (?_)
 rotate_right 1
 focus
  intro c1
  simp at c1;have hw := wrap_succ (i:=i) (by omega);obtain ⟨x,_,d1,g1⟩ := ints_cut c1;obtain ⟨y,_,d2,g2⟩ := ints_cut (l:=b) (i:=i) (by omega)
  refine wc_skip (?_)
 all_goals first
 | refine aft_exit ?_
 | (
  refine aft_normal ?_
  refine wa_ (wc_block (wa_ (wc_region (w_ (m_ (h:=w_ (a_ (h:=wo_nil (e_ (h:=aft_normal (wa_ (wc_draw (y_ (m_ (h:=ax_ (h:=y_ (m_ (h:=ax_ (h:=y_ (x_ (h:=ax_ (h:=y_ (l_ (h:=ax_ (h:=y_ (m_ (h:=ax_ (h:=y_ (m_ (h:=ax_ (h:=y_ (x_ (h:=ax_ (h:=y_ (l_ (h:=ax_ (h:=y_ (bE (h:=ax_ (h:=wo_nil (ed (h:=aft_normal (?_)))))))))))))))))))))))))))))))))))))))))))
  refine c_ (h1:=?_) (h2:=?_)
  rotate_right 1
  focus
   intro c2
   refine wc_skip (?_)
  rotate_right 1
  focus
   intro c2
   refine wa_ (wc_region (w_ (a_ (h:=wo_nil (e_ (h:=aft_normal (wc_ret (?_))))))))
  all_goals first | refine blk_normal ?_ | refine blk_ret ?_
  all_goals first
  | refine aft_ret ?_
  | (
   refine aft_normal ?_
   refine wc_region (w_ (b_ (h:=w_ (m_ (h:=wo_nil (e_ (h:=?_)))))))
   )
  )
 all_goals first
 | (refine (ih (i + 1) (by omega) ?_ _ ?_).trans ?_;(focus (first | omega | (simp;done) | (simp;omega)));(focus (simp [normE,hw];done));(focus (simp at c2;rw [d1,d2];simp [c2])))
 | (apply end_leaf (ex:=Ext.ret) 2 (some [4]);(focus (simp [normE];rfl));(focus (simp at c2;rw [d1,d2];simp [c2])))
 | (apply end_leaf (ex:=(Ext.exit 0)) 2 (some [4]);(focus (simp [normE];rfl));(focus (rw [if_pos (by simp [hab])])))
theorem e_eqG (a b : List Int) (z z' : Nat) (ha : a.length < 4000000000) (hb : b.length < 4000000000) : oc.call 111 [.lst false z (ints a),.lst false z' (ints b)] = some (.bool (decide (a = b)),[]) := by
 refine fun_s rfl cd111 rfl rfl rfl (by simp;rfl) (by simp;rfl) ?_
 refine wa_ (wc_region (w_ (a_ (h:=wo_nil (e_ (h:=aft_normal (wa_ (wa_ (wc_region (w_ (m_ (h:=w_ (le (h:=w_ (m_ (h:=w_ (le (h:=w_ (bE (h:=wo_nil (e_ (h:=aft_normal (?_)))))))))))))))))))))))
 refine c_ (h1:=?_) (h2:=?_)
 rotate_right 1
 focus
  intro c1
  simp at c1
  refine wc_skip (?_)
 rotate_right 1
 focus
  intro c1
  simp at c1;have hne : a ≠ b := (by rintro rfl;exact c1 rfl)
  refine wa_ (wc_region (w_ (a_ (h:=wo_nil (e_ (h:=aft_normal (wc_ret (?_))))))))
 all_goals first
 | refine aft_ret ?_
 | (
  refine aft_normal ?_
  refine wa_ (wa_ (wc_region (w_ (m_ (h:=w_ (le (h:=w_ (m_ (h:=wo_nil (e_ (h:=aft_normal (wc_block (?_)))))))))))))
  refine wc_loopI (l_eqG a b z z' ha (by omega) 0 (by omega) _ (by simp [normE])) ?_ ?_
  rotate_right 1
  focus
   intro c2
   skip
  rotate_right 1
  focus
   intro c2
   skip
  all_goals first | refine blk_ret ?_ | refine blk_exit ?_
  all_goals first
  | refine aft_ret ?_
  | (
   refine aft_normal ?_
   refine wa_ (wc_region (w_ (a_ (h:=wo_nil (e_ (h:=aft_normal (wc_ret (?_))))))))
   )
  )
 all_goals (refine fin_ (hr:=(res_tmp rfl res_nil)) (h:=?_);(focus (first | (simp_all;done) | (simp_all <;> omega) | (simp_all <;> split <;> simp_all <;> omega))))
theorem e_same (z z' : Nat) (d g : Nd) (ha : d.cells.length < 4000000) (hb : g.cells.length < 4000000) : oc.call 78 [d.v false z,g.v false z'] = some (.bool (decide (d = g)),[]) := by
 refine fun_s rfl cd78 rfl rfl rfl (by simp;rfl) (by simp;rfl) ?_
 refine wa_ (wc_region (w_ (bx (h:=w_ (bx (h:=w_ (a_ (h:=wo_nil (e_ (h:=aft_normal (wa_ (wc_region (w_ (f_ (h:=w_ (l_ (h:=w_ (f_ (h:=w_ (l_ (h:=w_ (bE (h:=w_ (m_ (h:=?_)))))))))))))))))))))))))
 refine gw_ (h1:=?_) (h2:=?_)
 rotate_right 1
 focus
  intro c1
  first
  | exact dn c1
  | (
   have d1 := c1;try simp at d1
   refine go_ (h:=go_ (h:=go_ (h:=go_ (h:=go_ (h:=?_)))))
   )
 rotate_right 1
 focus
  intro c1
  first
  | exact dn c1
  | (
   have d1 := c1;try simp at d1
   refine g_ (h:=w_ (f_ (h:=g_ (h:=w_ (l_ (h:=g_ (h:=w_ (f_ (h:=g_ (h:=w_ (l_ (h:=g_ (h:=w_ (bE (h:=?_)))))))))))))))
   )
 all_goals
  refine w_ (pk (h:=w_ (m_ (h:=?_))))
  refine gw_ (h1:=?_) (h2:=?_)
  rotate_right 1
  focus
   intro c2
   first
   | exact dn c2
   | (
    have d2 := c2;try simp at d2
    refine go_ (h:=go_ (h:=go_ (h:=go_ (h:=go_ (h:=?_)))))
    )
  rotate_right 1
  focus
   intro c2
   first
   | exact dn c2
   | (
    have d2 := c2;try simp at d2
    refine g_ (h:=w_ (f_ (h:=g_ (h:=w_ (l_ (h:=g_ (h:=w_ (f_ (h:=g_ (h:=w_ (l_ (h:=g_ (h:=w_ (bE (h:=?_)))))))))))))))
    )
  all_goals
   refine w_ (pk (h:=w_ (m_ (h:=?_))))
   refine gw_ (h1:=?_) (h2:=?_)
   rotate_right 1
   focus
    intro c3
    first
    | exact dn c3
    | (
     have d3 := c3;try simp at d3
     refine go_ (h:=go_ (h:=go_ (h:=go_ (h:=go_ (h:=?_)))))
     )
   rotate_right 1
   focus
    intro c3
    first
    | exact dn c3
    | (
     have d3 := c3;try simp at d3
     refine g_ (h:=w_ (f_ (h:=g_ (h:=w_ (l_ (h:=g_ (h:=w_ (f_ (h:=g_ (h:=w_ (l_ (h:=g_ (h:=w_ (bE (h:=?_)))))))))))))))
     )
   all_goals
    refine w_ (pk (h:=w_ (m_ (h:=?_))))
    refine gw_ (h1:=?_) (h2:=?_)
    rotate_right 1
    focus
     intro c4
     first
     | exact dn c4
     | (
      have d4 := c4;try simp at d4
      refine go_ (h:=go_ (h:=go_ (h:=go_ (h:=go_ (h:=?_)))))
      )
    rotate_right 1
    focus
     intro c4
     first
     | exact dn c4
     | (
      have d4 := c4;try simp at d4
      refine g_ (h:=w_ (f_ (h:=g_ (h:=w_ (l_ (h:=g_ (h:=w_ (f_ (h:=g_ (h:=w_ (l_ (h:=g_ (h:=w_ (bE (h:=?_)))))))))))))))
      )
    all_goals
     refine w_ (pk (h:=w_ (m_ (h:=?_))))
     refine gw_ (h1:=?_) (h2:=?_)
     rotate_right 1
     focus
      intro c5
      first
      | exact dn c5
      | (
       have d5 := c5;try simp at d5
       refine go_ (h:=go_ (h:=go_ (h:=go_ (h:=go_ (h:=?_)))))
       )
     rotate_right 1
     focus
      intro c5
      first
      | exact dn c5
      | (
       have d5 := c5;try simp at d5
       refine g_ (h:=w_ (f_ (h:=g_ (h:=w_ (l_ (h:=g_ (h:=w_ (f_ (h:=g_ (h:=w_ (l_ (h:=g_ (h:=w_ (bE (h:=?_)))))))))))))))
       )
     all_goals
      refine w_ (pk (h:=w_ (m_ (h:=?_))))
      refine gw_ (h1:=?_) (h2:=?_)
      rotate_right 1
      focus
       intro c6
       first
       | exact dn c6
       | (
        have d6 := c6;try simp at d6
        refine go_ (h:=go_ (h:=go_ (h:=go_ (h:=go_ (h:=?_)))))
        )
      rotate_right 1
      focus
       intro c6
       first
       | exact dn c6
       | (
        have d6 := c6;try simp at d6
        refine g_ (h:=w_ (f_ (h:=g_ (h:=w_ (l_ (h:=g_ (h:=w_ (f_ (h:=g_ (h:=w_ (l_ (h:=g_ (h:=w_ (ca (hc:=e_eqG _ _ _ _ (by omega) (by omega)) (h:=?_)))))))))))))))
        )
      all_goals
       refine w_ (pk (h:=w_ (a_ (h:=wo_nil (e_ (h:=?_))))))
 all_goals first
 | (
  refine aft_normal ?_
  refine wc_ret (?_)
  )
 all_goals (refine fin_ (hr:=(res_tmp rfl res_nil)) (h:=?_);(focus (simp [Nd.eq_iff];grind)))
def readsN (d : Nd) : List Int := if d.op = 1 then [] else if d.op = 4 ∨ d.op = 6 then [d.a,d.b] else [d.a]
theorem e_reads (z : Nat) (d : Nd) : oc.call 80 [d.v false z] = some (.lst true 1 (ints (readsN d)),[]) := by
 refine fun_s rfl cd80 rfl rfl rfl (by simp;rfl) (by simp;rfl) ?_
 refine wa_ (wc_region (w_ (bx (h:=w_ (aN (h:=wo_nil (e_ (h:=aft_normal (wa_ (wc_block (wa_ (wc_region (w_ (f_ (h:=w_ (l_ (h:=w_ (bE (h:=w_ (a_ (h:=wo_nil (e_ (h:=aft_normal (?_))))))))))))))))))))))))
 refine c_ (h1:=?_) (h2:=?_)
 rotate_right 1
 focus
  intro c1
  first
  | exact dn c1
  | (
   have d1 := c1;try simp at d1
   refine wa_ (wc_region (w_ (f_ (h:=w_ (l_ (h:=w_ (ca (hc:=e_two _) (h:=w_ (a_ (h:=wo_nil (e_ (h:=aft_normal (?_)))))))))))))
   refine c_ (h1:=?_) (h2:=?_)
   rotate_right 1
   focus
    intro c2
    first
    | exact dn c2
    | (
     have d2 := c2;try simp at d2
     refine wc_skip (?_)
     )
   rotate_right 1
   focus
    intro c2
    first
    | exact dn c2
    | (
     have d2 := c2;try simp at d2
     refine wa_ (wc_region (w_ (f_ (h:=w_ (l_ (h:=w_ (f_ (h:=w_ (l_ (h:=w_ (bs (h:=w_ (a_ (h:=wo_nil (e_ (h:=aft_normal (wc_ret (?_))))))))))))))))))
     )
   )
 rotate_right 1
 focus
  intro c1
  first
  | exact dn c1
  | (
   have d1 := c1;try simp at d1
   refine wa_ (wc_region (w_ (aN (h:=wo_nil (e_ (h:=aft_normal (wc_ret (?_))))))))
   )
 all_goals first | refine blk_normal ?_ | refine blk_ret ?_
 all_goals first
 | refine aft_ret ?_
 | (
  refine aft_normal ?_
  refine wa_ (wc_region (w_ (f_ (h:=w_ (l_ (h:=w_ (bs (h:=w_ (a_ (h:=wo_nil (e_ (h:=aft_normal (wc_ret (?_))))))))))))))
  )
 all_goals (refine fin_ (hr:=(res_tmp rfl res_nil)) (h:=?_);(focus (simp_all [readsN])))
def plainN (d : Nd) : Nd := ⟨d.op,if d.op = 1 then 0 else d.a,if d.op = 4 ∨ d.op = 6 then d.b else 0,if d.op = 1 ∨ d.op = 2 ∨ 6 ≤ d.op ∧ d.op ≤ 10 then d.col else 0,if d.op = 2 then d.test else 0,if d.op = 2 then d.value else 0,if d.op = 3 then d.cells else []⟩
theorem e_plain3 (z : Nat) (d : Nd) (h : d.op = 3) : oc.call 79 [d.v false z] = some ((plainN d).v false z,[]) := by
 refine fun_s rfl cd79 rfl rfl rfl (by simp;rfl) (by simp;rfl) ?_
 refine wa_ (wc_region (w_ (bx (h:=w_ (al (h:=wo_nil (e_ (h:=aft_normal (wa_ (wc_region (w_ (f_ (h:=w_ (l_ (h:=w_ (bd (h:=w_ (al (h:=w0 (s_ (h:=wo_nil (e_ (h:=aft_normal (wa_ (wa_ (wc_region (w_ (f_ (h:=w_ (l_ (h:=w_ (bE (h:=wo_nil (e_ (h:=aft_normal (?_))))))))))))))))))))))))))))))))))))
 refine c_ (h1:=?_) (h2:=?_)
 rotate_right 1
 focus
  intro c1
  first
  | exact dn c1
  | (
   have d1 := c1;try simp at d1
   refine wc_skip (?_)
   )
 rotate_right 1
 focus
  intro c1
  first
  | exact dn c1
  | (
   have d1 := c1;try simp at d1
   refine wc_region (w_ (f_ (h:=w_ (l_ (h:=w_ (f_ (h:=w0 (s_ (h:=wo_nil (e_ (h:=?_)))))))))))
   )
 all_goals first
 | (
  refine aft_normal ?_
  refine wa_ (wa_ (wc_region (w_ (f_ (h:=w_ (l_ (h:=w_ (ca (hc:=e_two _) (h:=wo_nil (e_ (h:=aft_normal (?_))))))))))))
  refine c_ (h1:=?_) (h2:=?_)
  rotate_right 1
  focus
   intro c2
   first
   | exact dn c2
   | (
    have d2 := c2;try simp at d2
    refine wc_skip (?_)
    )
  rotate_right 1
  focus
   intro c2
   first
   | exact dn c2
   | (
    have d2 := c2;try simp at d2
    refine wc_region (w_ (f_ (h:=w_ (l_ (h:=w_ (f_ (h:=w0 (s_ (h:=wo_nil (e_ (h:=?_)))))))))))
    )
  all_goals first
  | (
   refine aft_normal ?_
   refine wa_ (wa_ (wc_region (w_ (f_ (h:=w_ (l_ (h:=wo_nil (e_ (h:=aft_normal (wc_block (wa_ (wa_ (wc_region (w_ (bE (h:=w_ (a_ (h:=wo_nil (e_ (h:=aft_normal (?_)))))))))))))))))))))
   refine c_ (h1:=?_) (h2:=?_)
   rotate_right 1
   focus
    intro c3
    first
    | exact dn c3
    | (
     have d3 := c3;try simp at d3
     refine wa_ (wc_region (w_ (bE (h:=w_ (a_ (h:=wo_nil (e_ (h:=aft_normal (?_)))))))))
     refine c_ (h1:=?_) (h2:=?_)
     rotate_right 1
     focus
      intro c4
      first
      | exact dn c4
      | (
       have d4 := c4;try simp at d4
       refine wa_ (wc_region (w_ (bE (h:=w_ (a_ (h:=wo_nil (e_ (h:=aft_normal (?_)))))))))
       refine c_ (h1:=?_) (h2:=?_)
       rotate_right 1
       focus
        intro c5
        first
        | exact dn c5
        | (
         have d5 := c5;try simp at d5
         refine wa_ (wc_region (w_ (bE (h:=w_ (a_ (h:=wo_nil (e_ (h:=aft_normal (?_)))))))))
         refine c_ (h1:=?_) (h2:=?_)
         rotate_right 1
         focus
          intro c6
          first
          | exact dn c6
          | (
           have d6 := c6;try simp at d6
           refine wa_ (wc_region (w_ (bE (h:=w_ (a_ (h:=wo_nil (e_ (h:=aft_normal (?_)))))))))
           refine c_ (h1:=?_) (h2:=?_)
           rotate_right 1
           focus
            intro c7
            first
            | exact dn c7
            | (
             have d7 := c7;try simp at d7
             refine wc_region (w_ (bE (h:=w_ (a_ (h:=wo_nil (e_ (h:=?_)))))))
             )
           rotate_right 1
           focus
            intro c7
            first
            | exact dn c7
            | (
             have d7 := c7;try simp at d7
             refine wc_skip (?_)
             )
           )
         rotate_right 1
         focus
          intro c6
          first
          | exact dn c6
          | (
           have d6 := c6;try simp at d6
           refine wc_skip (?_)
           )
         )
       rotate_right 1
       focus
        intro c5
        first
        | exact dn c5
        | (
         have d5 := c5;try simp at d5
         refine wc_skip (?_)
         )
       )
     rotate_right 1
     focus
      intro c4
      first
      | exact dn c4
      | (
       have d4 := c4;try simp at d4
       refine wc_skip (?_)
       )
     )
   rotate_right 1
   focus
    intro c3
    first
    | exact dn c3
    | (
     have d3 := c3;try simp at d3
     refine wc_skip (?_)
     )
   all_goals first
   | (
    refine aft_normal ?_
    refine c_ (h1:=?_) (h2:=?_)
    rotate_right 1
    focus
     intro c8
     first
     | exact dn c8
     | (
      have d8 := c8;try simp at d8
      refine wa_ (wc_region (w_ (bE (h:=w_ (a_ (h:=wo_nil (e_ (h:=aft_normal (?_)))))))))
      refine c_ (h1:=?_) (h2:=?_)
      rotate_right 1
      focus
       intro c9
       first
       | exact dn c9
       | (
        have d9 := c9;try simp at d9
        refine wa_ (wc_region (w_ (bE (h:=w_ (a_ (h:=wo_nil (e_ (h:=aft_normal (?_)))))))))
        refine c_ (h1:=?_) (h2:=?_)
        rotate_right 1
        focus
         intro c10
         first
         | exact dn c10
         | (
          have d10 := c10;try simp at d10
          refine wc_skip (?_)
          )
        rotate_right 1
        focus
         intro c10
         first
         | exact dn c10
         | (
          have d10 := c10;try simp at d10
          refine wc_region (w_ (f_ (h:=w_ (l_ (h:=w_ (f_ (h:=w0 (s_ (h:=wo_nil (e_ (h:=?_)))))))))))
          )
        )
      rotate_right 1
      focus
       intro c9
       first
       | exact dn c9
       | (
        have d9 := c9;try simp at d9
        refine wc_draw (y_ (f_ (h:=ax_ (h:=y_ (l_ (h:=ax_ (h:=y_ (f_ (h:=ax_ (h:=y_ (l_ (h:=ax_ (h:=y_ (f_ (h:=ax_ (h:=y_ (l_ (h:=ax_ (h:=y_ (f_ (h:=ax_ (h:=y0 (s_ (h:=ax_ (h:=y_ (f_ (h:=ax_ (h:=y0 (s_ (h:=ax_ (h:=y_ (f_ (h:=ax_ (h:=y0 (s_ (h:=ax_ (h:=wo_nil (ed (h:=?_)))))))))))))))))))))))))))))))))))))))
        )
      )
    rotate_right 1
    focus
     intro c8
     first
     | exact dn c8
     | (
      have d8 := c8;try simp at d8
      refine wc_region (w_ (f_ (h:=w_ (l_ (h:=w_ (f_ (h:=w0 (s_ (h:=wo_nil (e_ (h:=?_)))))))))))
      )
    )
   all_goals refine blk_normal ?_
   all_goals first
   | (
    refine aft_normal ?_
    refine wa_ (wc_region (w_ (l_ (h:=w0 (s_ (h:=wo_nil (e_ (h:=aft_normal (wc_ret (?_))))))))))
    )
   )
  )
 all_goals (refine fin_ (hr:=(res_cell (tys_ok.zero _ _ rfl) rfl (by simp;rfl) (by rfl) res_nil)) (h:=?_);(focus (simp [Nd.v,plainN];grind)))
theorem e_plain (z : Nat) (d : Nd) (h : d.op ≠ 3) : oc.call 79 [d.v false z] = some ((plainN d).v true 1,[]) := by
 refine fun_s rfl cd79 rfl rfl rfl (by simp;rfl) (by simp;rfl) ?_
 refine wa_ (wc_region (w_ (bx (h:=w_ (al (h:=wo_nil (e_ (h:=aft_normal (wa_ (wc_region (w_ (f_ (h:=w_ (l_ (h:=w_ (bd (h:=w_ (al (h:=w0 (s_ (h:=wo_nil (e_ (h:=aft_normal (wa_ (wa_ (wc_region (w_ (f_ (h:=w_ (l_ (h:=w_ (bE (h:=wo_nil (e_ (h:=aft_normal (?_))))))))))))))))))))))))))))))))))))
 refine c_ (h1:=?_) (h2:=?_)
 rotate_right 1
 focus
  intro c1
  first
  | exact dn c1
  | (
   have d1 := c1;try simp at d1
   refine wc_skip (?_)
   )
 rotate_right 1
 focus
  intro c1
  first
  | exact dn c1
  | (
   have d1 := c1;try simp at d1
   refine wc_region (w_ (f_ (h:=w_ (l_ (h:=w_ (f_ (h:=w0 (s_ (h:=wo_nil (e_ (h:=?_)))))))))))
   )
 all_goals first
 | (
  refine aft_normal ?_
  refine wa_ (wa_ (wc_region (w_ (f_ (h:=w_ (l_ (h:=w_ (ca (hc:=e_two _) (h:=wo_nil (e_ (h:=aft_normal (?_))))))))))))
  refine c_ (h1:=?_) (h2:=?_)
  rotate_right 1
  focus
   intro c2
   first
   | exact dn c2
   | (
    have d2 := c2;try simp at d2
    refine wc_skip (?_)
    )
  rotate_right 1
  focus
   intro c2
   first
   | exact dn c2
   | (
    have d2 := c2;try simp at d2
    refine wc_region (w_ (f_ (h:=w_ (l_ (h:=w_ (f_ (h:=w0 (s_ (h:=wo_nil (e_ (h:=?_)))))))))))
    )
  all_goals first
  | (
   refine aft_normal ?_
   refine wa_ (wa_ (wc_region (w_ (f_ (h:=w_ (l_ (h:=wo_nil (e_ (h:=aft_normal (wc_block (wa_ (wa_ (wc_region (w_ (bE (h:=w_ (a_ (h:=wo_nil (e_ (h:=aft_normal (?_)))))))))))))))))))))
   refine c_ (h1:=?_) (h2:=?_)
   rotate_right 1
   focus
    intro c3
    first
    | exact dn c3
    | (
     have d3 := c3;try simp at d3
     refine wa_ (wc_region (w_ (bE (h:=w_ (a_ (h:=wo_nil (e_ (h:=aft_normal (?_)))))))))
     refine c_ (h1:=?_) (h2:=?_)
     rotate_right 1
     focus
      intro c4
      first
      | exact dn c4
      | (
       have d4 := c4;try simp at d4
       refine wa_ (wc_region (w_ (bE (h:=w_ (a_ (h:=wo_nil (e_ (h:=aft_normal (?_)))))))))
       refine c_ (h1:=?_) (h2:=?_)
       rotate_right 1
       focus
        intro c5
        first
        | exact dn c5
        | (
         have d5 := c5;try simp at d5
         refine wa_ (wc_region (w_ (bE (h:=w_ (a_ (h:=wo_nil (e_ (h:=aft_normal (?_)))))))))
         refine c_ (h1:=?_) (h2:=?_)
         rotate_right 1
         focus
          intro c6
          first
          | exact dn c6
          | (
           have d6 := c6;try simp at d6
           refine wa_ (wc_region (w_ (bE (h:=w_ (a_ (h:=wo_nil (e_ (h:=aft_normal (?_)))))))))
           refine c_ (h1:=?_) (h2:=?_)
           rotate_right 1
           focus
            intro c7
            first
            | exact dn c7
            | (
             have d7 := c7;try simp at d7
             refine wc_region (w_ (bE (h:=w_ (a_ (h:=wo_nil (e_ (h:=?_)))))))
             )
           rotate_right 1
           focus
            intro c7
            first
            | exact dn c7
            | (
             have d7 := c7;try simp at d7
             refine wc_skip (?_)
             )
           )
         rotate_right 1
         focus
          intro c6
          first
          | exact dn c6
          | (
           have d6 := c6;try simp at d6
           refine wc_skip (?_)
           )
         )
       rotate_right 1
       focus
        intro c5
        first
        | exact dn c5
        | (
         have d5 := c5;try simp at d5
         refine wc_skip (?_)
         )
       )
     rotate_right 1
     focus
      intro c4
      first
      | exact dn c4
      | (
       have d4 := c4;try simp at d4
       refine wc_skip (?_)
       )
     )
   rotate_right 1
   focus
    intro c3
    first
    | exact dn c3
    | (
     have d3 := c3;try simp at d3
     refine wc_skip (?_)
     )
   all_goals first
   | (
    refine aft_normal ?_
    refine c_ (h1:=?_) (h2:=?_)
    rotate_right 1
    focus
     intro c8
     first
     | exact dn c8
     | (
      have d8 := c8;try simp at d8
      refine wa_ (wc_region (w_ (bE (h:=w_ (a_ (h:=wo_nil (e_ (h:=aft_normal (?_)))))))))
      refine c_ (h1:=?_) (h2:=?_)
      rotate_right 1
      focus
       intro c9
       first
       | exact dn c9
       | (
        have d9 := c9;try simp at d9
        refine wa_ (wc_region (w_ (bE (h:=w_ (a_ (h:=wo_nil (e_ (h:=aft_normal (?_)))))))))
        refine c_ (h1:=?_) (h2:=?_)
        rotate_right 1
        focus
         intro c10
         first
         | exact dn c10
         | (
          have d10 := c10;try simp at d10
          refine wc_skip (?_)
          )
        rotate_right 1
        focus
         intro c10
         first
         | exact dn c10
         | (
          have d10 := c10;try simp at d10
          refine wc_region (w_ (f_ (h:=w_ (l_ (h:=w_ (f_ (h:=w0 (s_ (h:=wo_nil (e_ (h:=?_)))))))))))
          )
        )
      rotate_right 1
      focus
       intro c9
       first
       | exact dn c9
       | (
        have d9 := c9;try simp at d9
        refine wc_draw (y_ (f_ (h:=ax_ (h:=y_ (l_ (h:=ax_ (h:=y_ (f_ (h:=ax_ (h:=y_ (l_ (h:=ax_ (h:=y_ (f_ (h:=ax_ (h:=y_ (l_ (h:=ax_ (h:=y_ (f_ (h:=ax_ (h:=y0 (s_ (h:=ax_ (h:=y_ (f_ (h:=ax_ (h:=y0 (s_ (h:=ax_ (h:=y_ (f_ (h:=ax_ (h:=y0 (s_ (h:=ax_ (h:=wo_nil (ed (h:=?_)))))))))))))))))))))))))))))))))))))))
        )
      )
    rotate_right 1
    focus
     intro c8
     first
     | exact dn c8
     | (
      have d8 := c8;try simp at d8
      refine wc_region (w_ (f_ (h:=w_ (l_ (h:=w_ (f_ (h:=w0 (s_ (h:=wo_nil (e_ (h:=?_)))))))))))
      )
    )
   all_goals refine blk_normal ?_
   all_goals first
   | (
    refine aft_normal ?_
    refine wa_ (wc_region (w_ (l_ (h:=w0 (s_ (h:=wo_nil (e_ (h:=aft_normal (wc_ret (?_))))))))))
    )
   )
  )
 all_goals (refine fin_ (hr:=(res_cell (tys_ok.zero _ _ rfl) rfl (by simp;rfl) (by rfl) res_nil)) (h:=?_);(focus (simp [Nd.v,plainN,h];grind)))
def at0 (w : List Int) (a : Int) : Int := w.getD a.toNat 0
theorem ints_ix {w : List Int} {a : Int} (h0 : 0 ≤ a) (h : a < w.length) : (ints w)[a.toNat]? = some (.int .i64 (at0 w a)) := by
  have : a.toNat < w.length := by omega
  simp [ints,at0,this]
def widthN (d : Nd) (w : List Int) : Int :=
  if d.op = 1 then d.col else if d.op = 3 then d.cells.length else if d.op = 6 then IntKind.i64.wrap (IntKind.i64.wrap (at0 w d.a + at0 w d.b) - d.col) else if inI d.op 7 10 then IntKind.i64.wrap (d.col + 1) else at0 w d.a
def fitN (d : Nd) (m : Nat) : Prop := (d.op ≠ 1 → 0 ≤ d.a ∧ d.a < m) ∧ (d.op = 4 ∨ d.op = 6 → 0 ≤ d.b ∧ d.b < m)
theorem e_width (z z' : Nat) (d : Nd) (w : List Int) (hd : d.cells.length < 4000000) (h : fitN d w.length) : oc.call 82 [d.v false z,.lst false z' (ints w)] = some (.int .i64 (widthN d w),[]) := by
 refine fun_s rfl cd82 rfl rfl rfl (by simp;rfl) (by simp;rfl) ?_
 obtain ⟨h1,h2⟩ := h
 refine wa_ (wc_region (w_ (bx (h:=w_ (a_ (h:=wo_nil (e_ (h:=aft_normal (wa_ (wc_block (wa_ (wc_region (w_ (f_ (h:=w_ (l_ (h:=w_ (bE (h:=w_ (a_ (h:=wo_nil (e_ (h:=aft_normal (?_))))))))))))))))))))))))
 refine c_ (h1:=?_) (h2:=?_)
 rotate_right 1
 focus
  intro c1
  first
  | exact dn c1
  | (
   have d1 := c1;try simp at d1
   refine wa_ (wc_region (w_ (f_ (h:=w_ (l_ (h:=w_ (bE (h:=w_ (a_ (h:=wo_nil (e_ (h:=aft_normal (?_)))))))))))))
   refine c_ (h1:=?_) (h2:=?_)
   rotate_right 1
   focus
    intro c2
    first
    | exact dn c2
    | (
     have d2 := c2;try simp at d2
     refine wa_ (wc_region (w_ (f_ (h:=w_ (l_ (h:=w_ (bE (h:=w_ (a_ (h:=wo_nil (e_ (h:=aft_normal (?_)))))))))))))
     refine c_ (h1:=?_) (h2:=?_)
     rotate_right 1
     focus
      intro c3
      first
      | exact dn c3
      | (
       have d3 := c3;try simp at d3
       refine wa_ (wc_region (w_ (f_ (h:=w_ (l_ (h:=w_ (ca (hc:=e_grouped _) (h:=w_ (a_ (h:=wo_nil (e_ (h:=aft_normal (?_)))))))))))))
       refine c_ (h1:=?_) (h2:=?_)
       rotate_right 1
       focus
        intro c4
        first
        | exact dn c4
        | (
         have d4 := c4;try simp at d4
         have h3 := (h1 (by omega)).1;have h4 := (h1 (by omega)).2;have g1 := ints_ix h3 h4
         refine wc_skip (?_)
         )
       rotate_right 1
       focus
        intro c4
        first
        | exact dn c4
        | (
         have d4 := c4;try simp at d4
         refine wa_ (wc_region (w_ (f_ (h:=w_ (l_ (h:=w_ (b_ (h:=w_ (a_ (h:=wo_nil (e_ (h:=aft_normal (wc_ret (?_))))))))))))))
         )
       )
     rotate_right 1
     focus
      intro c3
      first
      | exact dn c3
      | (
       have d3 := c3;try simp at d3
       obtain ⟨h3,h4⟩ := h1 (by omega);obtain ⟨h5,h6⟩ := h2 (by omega);have g1 := ints_ix h3 h4;have g2 := ints_ix h5 h6
       refine wa_ (wc_draw (y_ (m_ (h:=ax_ (h:=y_ (f_ (h:=ax_ (h:=y_ (l_ (h:=ax_ (h:=y_ (x_ (h:=ax_ (h:=y_ (l_ (h:=ax_ (h:=y_ (m_ (h:=ax_ (h:=y_ (f_ (h:=ax_ (h:=y_ (l_ (h:=ax_ (h:=y_ (x_ (h:=ax_ (h:=y_ (l_ (h:=ax_ (h:=y_ (b_ (h:=ax_ (h:=y_ (f_ (h:=ax_ (h:=y_ (l_ (h:=ax_ (h:=y_ (b_ (h:=ax_ (h:=y_ (a_ (h:=ax_ (h:=wo_nil (ed (h:=aft_normal (wc_ret (?_)))))))))))))))))))))))))))))))))))))))))))))))))))
       )
     )
   rotate_right 1
   focus
    intro c2
    first
    | exact dn c2
    | (
     have d2 := c2;try simp at d2
     refine wa_ (wc_region (w_ (f_ (h:=w_ (l_ (h:=w_ (ca (hc:=e_size 0 (ints d.cells) (by simp;omega)) (h:=w_ (a_ (h:=wo_nil (e_ (h:=aft_normal (wc_ret (?_))))))))))))))
     )
   )
 rotate_right 1
 focus
  intro c1
  first
  | exact dn c1
  | (
   have d1 := c1;try simp at d1
   refine wa_ (wc_region (w_ (f_ (h:=w_ (l_ (h:=w_ (a_ (h:=wo_nil (e_ (h:=aft_normal (wc_ret (?_))))))))))))
   )
 all_goals first | refine blk_normal ?_ | refine blk_ret ?_
 all_goals first
 | refine aft_ret ?_
 | (
  refine aft_normal ?_
  refine wa_ (wc_region (w_ (m_ (h:=w_ (f_ (h:=w_ (l_ (h:=w_ (x_ (h:=w_ (l_ (h:=w_ (a_ (h:=wo_nil (e_ (h:=aft_normal (wc_ret (?_))))))))))))))))))
  )
 all_goals (refine fin_ (hr:=(res_tmp rfl res_nil)) (h:=?_);(focus (simp [widthN];grind [inI])))
def faultN (d : Nd) (w : List Int) : Int :=
  if d.op = 1 then (if inI d.col 1 3 then 0 else 3)
  else if d.op = 2 then (if inI d.col 0 (IntKind.i64.wrap (at0 w d.a - 1)) && (inI d.test 0 2 && inI d.value (-1000000000) 1000000000) then 0 else 3)
  else if d.op = 3 then (if inI d.cells.length 1 4 then (if d.cells.all fun c => inI c 0 (IntKind.i64.wrap (at0 w d.a - 1)) then 0 else 3) else 2)
  else if d.op = 4 then (if at0 w d.a = at0 w d.b then 0 else 1)
  else if d.op = 6 then (if inI d.col 1 (min (at0 w d.a) (at0 w d.b)) then (if 4 < widthN d w then 2 else 0) else 3)
  else if d.op = 7 then (if inI d.col 0 (min (at0 w d.a) 3) then 0 else 3)
  else if 8 ≤ d.op ∧ d.op ≤ 10 then (if inI d.col 0 (IntKind.i64.wrap (at0 w d.a - 1)) then 0 else 3)
  else 0
theorem l_cells (z z' : Nat) (d : Nd) (w : List Int) (hd : d.cells.length < 4000000) (h0 : 0 ≤ d.a) (h1 : d.a < w.length) : ∀ i : Nat,i ≤ d.cells.length → ∀ s,normE 2 (some [1,2,47,48,49]) s = ⟨[(1,.lst false z' (ints w)),(2,.ptr 2 0 []),(47,.lst false z (ints d.cells)),(48,.int .i64 d.cells.length),(49,.int .i64 i)],[(2,⟨true,false,7,[d.v false z],0⟩)],3⟩ →
 oc.loop 81 12 s = some (if ((d.cells.drop i).all fun c => inI c 0 (IntKind.i64.wrap (at0 w d.a - 1))) = true then (.exit 1,⟨[],[],2⟩) else (.ret,⟨[(4,.int .i64 3)],[],2⟩)) := by
 refine loop_ind (fun i => d.cells.length - i) _ (fun i => ⟨[(1,.lst false z' (ints w)),(2,.ptr 2 0 []),(47,.lst false z (ints d.cells)),(48,.int .i64 d.cells.length),(49,.int .i64 i)],[(2,⟨true,false,7,[d.v false z],0⟩)],3⟩) _ ?_
 intro i hi ih s hs
 refine loop_s cd81 rfl rfl hs ?_
 refine wa_ (wc_region (w_ (b_ (h:=wo_nil (e_ (h:=aft_normal (wa_ (?_))))))))
 refine c_ (h1:=?_) (h2:=?_)
 rotate_right 1
 focus
  intro c1
  simp at c1;have : i = d.cells.length := (by omega);subst this
  refine wc_exit (?_)
 rotate_right 1
 focus
  intro c1
  simp at c1;have hw := wrap_succ (i:=i) (by omega);obtain ⟨x,_,d1,g1⟩ := ints_cut c1;have g2 := ints_ix h0 h1
  refine wc_skip (?_)
 all_goals first
 | refine aft_exit ?_
 | (
  refine aft_normal ?_
  refine wa_ (wc_block (wa_ (wc_region (w_ (x_ (h:=w_ (l_ (h:=w_ (a_ (h:=wo_nil (e_ (h:=aft_normal (wa_ (wc_region (w_ (m_ (h:=w_ (m_ (h:=w_ (f_ (h:=w_ (l_ (h:=w_ (x_ (h:=w_ (l_ (h:=w_ (b_ (h:=w_ (ca (hc:=e_in _ _ _) (h:=w_ (u_ (h:=wo_nil (e_ (h:=aft_normal (?_))))))))))))))))))))))))))))))))))))
  refine c_ (h1:=?_) (h2:=?_)
  rotate_right 1
  focus
   intro c2
   refine wc_skip (?_)
  rotate_right 1
  focus
   intro c2
   refine wa_ (wc_region (w_ (a_ (h:=wo_nil (e_ (h:=aft_normal (wc_ret (?_))))))))
  all_goals first | refine blk_normal ?_ | refine blk_ret ?_
  all_goals first
  | refine aft_ret ?_
  | (
   refine aft_normal ?_
   refine wc_region (w_ (b_ (h:=w_ (m_ (h:=wo_nil (e_ (h:=?_)))))))
   )
  )
 all_goals first
 | (refine (ih (i + 1) (by omega) ?_ _ ?_).trans ?_;(focus (first | omega | (simp;done) | (simp;omega)));(focus (simp [normE,hw];done));(focus (rw [d1];simp at c2 ⊢;grind)))
 | (apply end_leaf (ex:=Ext.ret) 2 (some [4]);(focus (simp [normE];rfl));(focus (rw [d1];simp at c2 ⊢;grind)))
 | (apply end_leaf (ex:=(Ext.exit 1)) 2 (some [4]);(focus (simp [normE];rfl));(focus (simp)))
theorem e_fault (z z' : Nat) (d : Nd) (w : List Int) (hd : d.cells.length < 4000000) (h : fitN d w.length) (ho : 1 ≤ d.op ∧ d.op ≤ 12) : oc.call 81 [d.v false z,.lst false z' (ints w)] = some (.int .i64 (faultN d w),[]) := by
 refine fun_s rfl cd81 rfl rfl rfl (by simp;rfl) (by simp;rfl) ?_
 obtain ⟨k1,k2⟩ := h
 refine wa_ (wc_region (w_ (bx (h:=w_ (a_ (h:=wo_nil (e_ (h:=aft_normal (wa_ (wa_ (wc_region (w_ (f_ (h:=w_ (l_ (h:=wo_nil (e_ (h:=aft_normal (wc_block (wa_ (wc_region (w_ (bE (h:=w_ (a_ (h:=wo_nil (e_ (h:=aft_normal (?_)))))))))))))))))))))))))))))
 refine c_ (h1:=?_) (h2:=?_)
 rotate_right 1
 focus
  intro c1
  first
  | exact dn c1
  | (
   have d1 := c1;try simp at d1
   refine wa_ (wc_region (w_ (bE (h:=w_ (a_ (h:=wo_nil (e_ (h:=aft_normal (?_)))))))))
   refine c_ (h1:=?_) (h2:=?_)
   rotate_right 1
   focus
    intro c2
    first
    | exact dn c2
    | (
     have d2 := c2;try simp at d2
     refine wa_ (wc_region (w_ (bE (h:=w_ (a_ (h:=wo_nil (e_ (h:=aft_normal (?_)))))))))
     refine c_ (h1:=?_) (h2:=?_)
     rotate_right 1
     focus
      intro c3
      first
      | exact dn c3
      | (
       have d3 := c3;try simp at d3
       refine wa_ (wc_region (w_ (bE (h:=w_ (a_ (h:=wo_nil (e_ (h:=aft_normal (?_)))))))))
       refine c_ (h1:=?_) (h2:=?_)
       rotate_right 1
       focus
        intro c4
        first
        | exact dn c4
        | (
         have d4 := c4;try simp at d4
         refine wa_ (wc_region (w_ (bE (h:=w_ (a_ (h:=wo_nil (e_ (h:=aft_normal (?_)))))))))
         refine c_ (h1:=?_) (h2:=?_)
         rotate_right 1
         focus
          intro c5
          first
          | exact dn c5
          | (
           have d5 := c5;try simp at d5
           refine wa_ (wc_region (w_ (bE (h:=w_ (a_ (h:=wo_nil (e_ (h:=aft_normal (?_)))))))))
           refine c_ (h1:=?_) (h2:=?_)
           rotate_right 1
           focus
            intro c6
            first
            | exact dn c6
            | (
             have d6 := c6;try simp at d6
             refine wa_ (wa_ (wc_region (w_ (bE (h:=w_ (a_ (h:=wo_nil (e_ (h:=aft_normal (?_))))))))))
             refine c_ (h1:=?_) (h2:=?_)
             rotate_right 1
             focus
              intro c7
              first
              | exact dn c7
              | (
               have d7 := c7;try simp at d7
               refine wa_ (wc_region (w_ (bE (h:=w_ (a_ (h:=wo_nil (e_ (h:=aft_normal (?_)))))))))
               refine c_ (h1:=?_) (h2:=?_)
               rotate_right 1
               focus
                intro c8
                first
                | exact dn c8
                | (
                 have d8 := c8;try simp at d8
                 refine wc_region (w_ (bE (h:=w_ (a_ (h:=wo_nil (e_ (h:=?_)))))))
                 )
               rotate_right 1
               focus
                intro c8
                first
                | exact dn c8
                | (
                 have d8 := c8;try simp at d8
                 refine wc_skip (?_)
                 )
               )
             rotate_right 1
             focus
              intro c7
              first
              | exact dn c7
              | (
               have d7 := c7;try simp at d7
               refine wc_skip (?_)
               )
             all_goals first
             | (
              refine aft_normal ?_
              refine c_ (h1:=?_) (h2:=?_)
              rotate_right 1
              focus
               intro c9
               first
               | exact dn c9
               | (
                have d9 := c9;try simp at d9
                refine wc_skip (?_)
                )
              rotate_right 1
              focus
               intro c9
               first
               | exact dn c9
               | (
                have d9 := c9;try simp at d9
                obtain ⟨h3,h4⟩ := k1 (by omega);have g1 := ints_ix h3 h4
                refine wa_ (wc_draw (y_ (f_ (h:=ax_ (h:=y_ (l_ (h:=ax_ (h:=y_ (m_ (h:=ax_ (h:=y_ (f_ (h:=ax_ (h:=y_ (l_ (h:=ax_ (h:=y_ (x_ (h:=ax_ (h:=y_ (l_ (h:=ax_ (h:=y_ (b_ (h:=ax_ (h:=y_ (ca (hc:=e_in _ _ _) (h:=ax_ (h:=y_ (u_ (h:=ax_ (h:=wo_nil (ed (h:=aft_normal (?_)))))))))))))))))))))))))))))))))))
                refine c_ (h1:=?_) (h2:=?_)
                rotate_right 1
                focus
                 intro c10
                 first
                 | exact dn c10
                 | (
                  have d10 := c10;try simp at d10
                  refine wc_skip (?_)
                  )
                rotate_right 1
                focus
                 intro c10
                 first
                 | exact dn c10
                 | (
                  have d10 := c10;try simp at d10
                  refine wa_ (wc_region (w_ (a_ (h:=wo_nil (e_ (h:=aft_normal (wc_ret (?_))))))))
                  )
                )
              )
             )
           rotate_right 1
           focus
            intro c6
            first
            | exact dn c6
            | (
             have d6 := c6;try simp at d6
             obtain ⟨h3,h4⟩ := k1 (by omega);have g1 := ints_ix h3 h4
             refine wa_ (wc_draw (y_ (f_ (h:=ax_ (h:=y_ (l_ (h:=ax_ (h:=y_ (m_ (h:=ax_ (h:=y_ (f_ (h:=ax_ (h:=y_ (l_ (h:=ax_ (h:=y_ (x_ (h:=ax_ (h:=y_ (l_ (h:=ax_ (h:=y_ (mi (h:=ax_ (h:=y_ (ca (hc:=e_in _ _ _) (h:=ax_ (h:=y_ (u_ (h:=ax_ (h:=wo_nil (ed (h:=aft_normal (?_)))))))))))))))))))))))))))))))))))
             refine c_ (h1:=?_) (h2:=?_)
             rotate_right 1
             focus
              intro c11
              first
              | exact dn c11
              | (
               have d11 := c11;try simp at d11
               refine wc_skip (?_)
               )
             rotate_right 1
             focus
              intro c11
              first
              | exact dn c11
              | (
               have d11 := c11;try simp at d11
               refine wa_ (wc_region (w_ (a_ (h:=wo_nil (e_ (h:=aft_normal (wc_ret (?_))))))))
               )
             )
           )
         rotate_right 1
         focus
          intro c5
          first
          | exact dn c5
          | (
           have d5 := c5;try simp at d5
           obtain ⟨h3,h4⟩ := k1 (by omega);have g1 := ints_ix h3 h4;obtain ⟨h5,h6⟩ := k2 (by omega);have g2 := ints_ix h5 h6
           refine wa_ (wa_ (wc_draw (y_ (f_ (h:=ax_ (h:=y_ (l_ (h:=ax_ (h:=y_ (m_ (h:=ax_ (h:=y_ (f_ (h:=ax_ (h:=y_ (l_ (h:=ax_ (h:=y_ (x_ (h:=ax_ (h:=y_ (l_ (h:=ax_ (h:=y_ (m_ (h:=ax_ (h:=y_ (f_ (h:=ax_ (h:=y_ (l_ (h:=ax_ (h:=y_ (x_ (h:=ax_ (h:=y_ (l_ (h:=ax_ (h:=y_ (mi (h:=ax_ (h:=y_ (ca (hc:=e_in _ _ _) (h:=ax_ (h:=y_ (u_ (h:=ax_ (h:=wo_nil (ed (h:=aft_normal (?_)))))))))))))))))))))))))))))))))))))))))))))))))))
           refine c_ (h1:=?_) (h2:=?_)
           rotate_right 1
           focus
            intro c12
            first
            | exact dn c12
            | (
             have d12 := c12;try simp at d12
             refine wc_skip (?_)
             )
           rotate_right 1
           focus
            intro c12
            first
            | exact dn c12
            | (
             have d12 := c12;try simp at d12
             refine wa_ (wc_region (w_ (a_ (h:=wo_nil (e_ (h:=aft_normal (wc_ret (?_))))))))
             )
           all_goals first
           | refine aft_ret ?_
           | (
            refine aft_normal ?_
            refine wa_ (wc_region (w_ (l_ (h:=w_ (m_ (h:=w_ (ca (hc:=e_width 0 0 d w hd ⟨k1,k2⟩) (h:=w_ (b_ (h:=wo_nil (e_ (h:=aft_normal (?_)))))))))))))
            refine c_ (h1:=?_) (h2:=?_)
            rotate_right 1
            focus
             intro c13
             first
             | exact dn c13
             | (
              have d13 := c13;try simp at d13
              refine wc_skip (?_)
              )
            rotate_right 1
            focus
             intro c13
             first
             | exact dn c13
             | (
              have d13 := c13;try simp at d13
              refine wa_ (wc_region (w_ (a_ (h:=wo_nil (e_ (h:=aft_normal (wc_ret (?_))))))))
              )
            )
           )
         )
       rotate_right 1
       focus
        intro c4
        first
        | exact dn c4
        | (
         have d4 := c4;try simp at d4
         obtain ⟨h3,h4⟩ := k1 (by omega);have g1 := ints_ix h3 h4;obtain ⟨h5,h6⟩ := k2 (by omega);have g2 := ints_ix h5 h6
         refine wa_ (wc_draw (y_ (m_ (h:=ax_ (h:=y_ (f_ (h:=ax_ (h:=y_ (l_ (h:=ax_ (h:=y_ (x_ (h:=ax_ (h:=y_ (l_ (h:=ax_ (h:=y_ (m_ (h:=ax_ (h:=y_ (f_ (h:=ax_ (h:=y_ (l_ (h:=ax_ (h:=y_ (x_ (h:=ax_ (h:=y_ (l_ (h:=ax_ (h:=y_ (bE (h:=ax_ (h:=wo_nil (ed (h:=aft_normal (?_))))))))))))))))))))))))))))))))))))))
         refine c_ (h1:=?_) (h2:=?_)
         rotate_right 1
         focus
          intro c14
          first
          | exact dn c14
          | (
           have d14 := c14;try simp at d14
           refine wc_skip (?_)
           )
         rotate_right 1
         focus
          intro c14
          first
          | exact dn c14
          | (
           have d14 := c14;try simp at d14
           refine wa_ (wc_region (w_ (a_ (h:=wo_nil (e_ (h:=aft_normal (wc_ret (?_))))))))
           )
         )
       )
     rotate_right 1
     focus
      intro c3
      first
      | exact dn c3
      | (
       have d3 := c3;try simp at d3
       obtain ⟨h3,h4⟩ := k1 (by omega);have g1 := ints_ix h3 h4
       refine wa_ (wa_ (wc_region (w_ (f_ (h:=w_ (l_ (h:=w_ (ca (hc:=e_size 0 (ints d.cells) (by simp;omega)) (h:=w_ (ca (hc:=e_in _ _ _) (h:=w_ (u_ (h:=wo_nil (e_ (h:=aft_normal (?_))))))))))))))))
       refine c_ (h1:=?_) (h2:=?_)
       rotate_right 1
       focus
        intro c15
        first
        | exact dn c15
        | (
         have d15 := c15;try simp at d15
         refine wc_skip (?_)
         )
       rotate_right 1
       focus
        intro c15
        first
        | exact dn c15
        | (
         have d15 := c15;try simp at d15
         refine wa_ (wc_region (w_ (a_ (h:=wo_nil (e_ (h:=aft_normal (wc_ret (?_))))))))
         )
       all_goals first
       | refine aft_ret ?_
       | (
        refine aft_normal ?_
        refine wa_ (wc_region (w_ (f_ (h:=w_ (l_ (h:=w_ (le (h:=w_ (m_ (h:=wo_nil (e_ (h:=aft_normal (wc_block (?_))))))))))))))
        refine wc_loopI (l_cells z z' d w hd h3 h4 0 (by omega) _ (by simp [normE])) ?_ ?_
        rotate_right 1
        focus
         intro c16
         first
         | exact dn c16
         | (
          have d16 := c16;try simp at d16
          skip
          )
        rotate_right 1
        focus
         intro c16
         first
         | exact dn c16
         | (
          have d16 := c16;try simp at d16
          skip
          )
        all_goals first | refine blk_ret ?_ | refine blk_exit ?_
        )
       )
     )
   rotate_right 1
   focus
    intro c2
    first
    | exact dn c2
    | (
     have d2 := c2;try simp at d2
     obtain ⟨h3,h4⟩ := k1 (by omega);have g1 := ints_ix h3 h4
     refine wa_ (wc_draw (y_ (f_ (h:=ax_ (h:=y_ (l_ (h:=ax_ (h:=y_ (m_ (h:=ax_ (h:=y_ (f_ (h:=ax_ (h:=y_ (l_ (h:=ax_ (h:=y_ (x_ (h:=ax_ (h:=y_ (l_ (h:=ax_ (h:=y_ (b_ (h:=ax_ (h:=y_ (ca (hc:=e_in _ _ _) (h:=ax_ (h:=y_ (u_ (h:=ax_ (h:=y_ (m_ (h:=ax_ (h:=?_)))))))))))))))))))))))))))))))))))
     refine gw_ (h1:=?_) (h2:=?_)
     rotate_right 1
     focus
      intro c17
      first
      | exact dn c17
      | (
       have d17 := c17;try simp at d17
       refine gd_ (h:=gd_ (h:=gd_ (h:=gd_ (h:=?_))))
       )
     rotate_right 1
     focus
      intro c17
      first
      | exact dn c17
      | (
       have d17 := c17;try simp at d17
       refine g_ (h:=y_ (f_ (h:=ax_ (h:=g_ (h:=y_ (l_ (h:=ax_ (h:=g_ (h:=y_ (ca (hc:=e_in _ _ _) (h:=ax_ (h:=g_ (h:=y_ (u_ (h:=ax_ (h:=?_))))))))))))))))
       )
     all_goals
      refine y_ (pk (h:=ax_ (h:=y_ (m_ (h:=ax_ (h:=?_))))))
      refine gw_ (h1:=?_) (h2:=?_)
      rotate_right 1
      focus
       intro c18
       first
       | exact dn c18
       | (
        have d18 := c18;try simp at d18
        refine gd_ (h:=gd_ (h:=gd_ (h:=gd_ (h:=?_))))
        )
      rotate_right 1
      focus
       intro c18
       first
       | exact dn c18
       | (
        have d18 := c18;try simp at d18
        refine g_ (h:=y_ (f_ (h:=ax_ (h:=g_ (h:=y_ (l_ (h:=ax_ (h:=g_ (h:=y_ (ca (hc:=e_in _ _ _) (h:=ax_ (h:=g_ (h:=y_ (u_ (h:=ax_ (h:=?_))))))))))))))))
        )
      all_goals
       refine y_ (pk (h:=ax_ (h:=wo_nil (ed (h:=?_)))))
     all_goals first
     | (
      refine aft_normal ?_
      refine c_ (h1:=?_) (h2:=?_)
      rotate_right 1
      focus
       intro c19
       first
       | exact dn c19
       | (
        have d19 := c19;try simp at d19
        refine wc_skip (?_)
        )
      rotate_right 1
      focus
       intro c19
       first
       | exact dn c19
       | (
        have d19 := c19;try simp at d19
        refine wa_ (wc_region (w_ (a_ (h:=wo_nil (e_ (h:=aft_normal (wc_ret (?_))))))))
        )
      )
     )
   )
 rotate_right 1
 focus
  intro c1
  first
  | exact dn c1
  | (
   have d1 := c1;try simp at d1
   refine wa_ (wc_region (w_ (f_ (h:=w_ (l_ (h:=w_ (ca (hc:=e_in _ _ _) (h:=w_ (u_ (h:=wo_nil (e_ (h:=aft_normal (?_)))))))))))))
   refine c_ (h1:=?_) (h2:=?_)
   rotate_right 1
   focus
    intro c20
    first
    | exact dn c20
    | (
     have d20 := c20;try simp at d20
     refine wc_skip (?_)
     )
   rotate_right 1
   focus
    intro c20
    first
    | exact dn c20
    | (
     have d20 := c20;try simp at d20
     refine wa_ (wc_region (w_ (a_ (h:=wo_nil (e_ (h:=aft_normal (wc_ret (?_))))))))
     )
   )
 all_goals first | refine blk_normal ?_ | refine blk_ret ?_
 all_goals first
 | refine aft_ret ?_
 | (
  refine aft_normal ?_
  refine wa_ (wc_region (w_ (a_ (h:=wo_nil (e_ (h:=aft_normal (wc_ret (?_))))))))
  )
 all_goals (refine fin_ (hr:=(res_tmp rfl res_nil)) (h:=?_);(focus (simp [faultN];grind)))
def opAt (l : List Nd) (a : Int) : Int := (l[a.toNat]?).elim 0 Nd.op
theorem nds_ix {t : Bool} {s : Nat} {l : List Nd} {a : Int} (h0 : 0 ≤ a) (h : a < l.length) : ∃ d,(nds t s l)[a.toNat]? = some (Nd.v t s d) ∧ opAt l a = Nd.op d := by
  have : a.toNat < l.length := by omega
  exact ⟨l[a.toNat],by simp [nds,this],by simp [opAt,this]⟩
def okR (pl : List Nd) (i : Nat) (k : Int) : Bool := inI k 0 (IntKind.i64.wrap ((i : Int) - 1)) && !decide (opAt pl k = 12)
theorem l_reads (pl : List Nd) (out rs : List Int) (d : Nd) (i : Nat) (hp : pl.length < 2000000) (hi : i ≤ pl.length) (hr : rs.length < 10) : ∀ j : Nat,j ≤ rs.length → ∀ s,normE 1 (some [0,4,5,6,15,16,17,34,35,36]) s = ⟨[(0,.lst false 0 (nds false 0 pl)),(4,.ref 1 0 out.length),(5,.int .i64 i),(6,.ptr 2 0 []),(15,.lst false 0 (nds false 0 pl)),(16,.int .i64 pl.length),(17,.int .i64 i),(34,.ref 3 0 rs.length),(35,.int .i64 rs.length),(36,.int .i64 j)],[(1,⟨false,false,1,ints out,0⟩),(2,⟨true,false,7,[d.v false 0],0⟩),(3,⟨false,false,1,ints rs,0⟩)],4⟩ →
 oc.loop 47 12 s = some (if (rs.drop j).all (okR pl i) = true then (.exit 3,⟨[(0,.lst false 0 (nds false 0 pl)),(4,.ref 1 0 out.length),(6,.ptr 2 0 []),(15,.lst false 0 (nds false 0 pl)),(16,.int .i64 pl.length),(17,.int .i64 i)],[(1,⟨false,false,1,ints out,0⟩),(2,⟨true,false,7,[d.v false 0],0⟩)],3⟩)
  else (.ret,⟨[(0,.lst false 0 (nds false 0 pl)),(2,.lst true 1 []),(3,.int .i64 3),(4,.ref 1 0 out.length),(6,.ptr 2 0 []),(15,.lst false 0 (nds false 0 pl)),(16,.int .i64 pl.length),(17,.int .i64 i)],[(1,⟨false,false,1,ints out,0⟩),(2,⟨true,false,7,[d.v false 0],0⟩)],3⟩)) := by
 refine loop_ind (fun j => rs.length - j) _ (fun j => ⟨[(0,.lst false 0 (nds false 0 pl)),(4,.ref 1 0 out.length),(5,.int .i64 i),(6,.ptr 2 0 []),(15,.lst false 0 (nds false 0 pl)),(16,.int .i64 pl.length),(17,.int .i64 i),(34,.ref 3 0 rs.length),(35,.int .i64 rs.length),(36,.int .i64 j)],[(1,⟨false,false,1,ints out,0⟩),(2,⟨true,false,7,[d.v false 0],0⟩),(3,⟨false,false,1,ints rs,0⟩)],4⟩) _ ?_
 intro j hj ih s hs
 have hw2 : IntKind.i64.wrap ((i : Int) - 1) = i - 1 := wrap_id (by omega) (by omega)
 refine loop_s cd47 rfl rfl hs ?_
 refine wa_ (wc_region (w_ (b_ (h:=wo_nil (e_ (h:=aft_normal (wa_ (?_))))))))
 refine c_ (h1:=?_) (h2:=?_)
 rotate_right 1
 focus
  intro c1
  first
  | exact dn c1
  | (
   have d1 := c1;try simp at d1
   have : j = rs.length := (by omega);subst this
   refine wc_exit (?_)
   )
 rotate_right 1
 focus
  intro c1
  first
  | exact dn c1
  | (
   have d1 := c1;try simp at d1
   have hw := wrap_succ (i:=j) (by omega);obtain ⟨x,_,e1,g1⟩ := ints_cut (l:=rs) (i:=j) (by omega);simp at g1
   refine wc_skip (?_)
   )
 all_goals first
 | refine aft_exit ?_
 | (
  refine aft_normal ?_
  refine wa_ (wc_block (wa_ (wc_region (w_ (x_ (h:=w_ (l_ (h:=w_ (a_ (h:=wo_nil (e_ (h:=aft_normal (wa_ (wc_region (w_ (m_ (h:=w_ (m_ (h:=w_ (b_ (h:=w_ (ca (hc:=e_in _ _ _) (h:=w_ (u_ (h:=w_ (m_ (h:=?_)))))))))))))))))))))))))))
  refine gw_ (h1:=?_) (h2:=?_)
  rotate_right 1
  focus
   intro c2
   first
   | exact dn c2
   | (
    have d2 := c2;try simp at d2
    refine go_ (h:=go_ (h:=go_ (h:=go_ (h:=go_ (h:=go_ (h:=?_))))))
    )
  rotate_right 1
  focus
   intro c2
   first
   | exact dn c2
   | (
    have d2 := c2;try simp at d2
    simp [inI,hw2] at d2;obtain ⟨h3,h4⟩ := d2;obtain ⟨e,g2,g3⟩ := nds_ix (t:=false) (s:=0) (l:=pl) h3 (by omega)
    refine g_ (h:=w_ (m_ (h:=g_ (h:=w_ (m_ (h:=g_ (h:=w_ (x_ (h:=g_ (h:=w_ (f_ (h:=g_ (h:=w_ (l_ (h:=g_ (h:=w_ (bE (h:=?_))))))))))))))))))
    )
  all_goals
   refine w_ (pk (h:=wo_nil (e_ (h:=?_))))
  all_goals first
  | (
   refine aft_normal ?_
   refine c_ (h1:=?_) (h2:=?_)
   rotate_right 1
   focus
    intro c3
    first
    | exact dn c3
    | (
     have d3 := c3;try simp at d3
     refine wc_skip (?_)
     )
   rotate_right 1
   focus
    intro c3
    first
    | exact dn c3
    | (
     have d3 := c3;try simp at d3
     refine wa_ (wc_region (w_ (aN (h:=w_ (a_ (h:=wo_nil (e_ (h:=aft_normal (wc_ret (?_))))))))))
     )
   )
  all_goals first | refine blk_normal ?_ | refine blk_ret ?_
  all_goals first
  | refine aft_ret ?_
  | (
   refine aft_normal ?_
   refine wc_region (w_ (b_ (h:=w_ (m_ (h:=wo_nil (e_ (h:=?_)))))))
   )
  )
 all_goals first
 | (refine (ih (j + 1) (by omega) ?_ _ ?_).trans ?_;(focus (first | omega | (simp;done) | (simp;omega)));(focus (simp [normE,hw];done));(focus (rw [e1];simp [okR] at *;grind)))
 | (apply end_leaf (ex:=Ext.ret) 1 (some [0,2,3,4,6,15,16,17]);(focus (simp [normE];rfl));(focus (rw [e1];simp [okR] at *;grind)))
 | (apply end_leaf (ex:=(Ext.exit 3)) 1 (some [0,2,3,4,6,15,16,17]);(focus (simp [normE];rfl));(focus (simp)))
theorem fit_of {pl : List Nd} {d : Nd} {i : Nat} (hi : i < 2000000) (h : (readsN d).all (okR pl i) = true) : fitN d i := by
  have hw2 : IntKind.i64.wrap ((i : Int) - 1) = i - 1 := wrap_id (by omega) (by omega)
  have key : ∀ k ∈ readsN d,0 ≤ k ∧ k < i := by
    intro k hk
    have := List.all_eq_true.mp h k hk
    simp [okR,inI,hw2] at this
    omega
  unfold readsN at key
  constructor
  · intro h1
    rw [if_neg h1] at key
    split at key <;> exact key _ (by simp)
  · intro h1
    rw [if_neg (by omega),if_pos h1] at key
    exact key _ (by simp)
theorem plain_len (d : Nd) : (plainN d).cells.length ≤ d.cells.length := by
  simp only [plainN]
  split <;> simp
def stepC (pl : List Nd) (d : Nd) (out : List Int) : Int :=
  if inI d.op 1 12 = false then 5 else if d ≠ plainN d then 1 else if (readsN d).all (okR pl out.length) = false then 3 else faultN d out
def lookR (pl : List Nd) : List Nd → List Int → List Int × Int
  | [],out => (out,0)
  | d :: r,out => if stepC pl d out = 0 then lookR pl r (out ++ [widthN d out]) else (out,stepC pl d out)
def lookE (q : List Int × Int) : Ext × St :=
  if q.2 = 0 then (.exit 0,⟨[(4,.ref 1 0 q.1.length)],[(1,⟨false,false,1,ints q.1,0⟩)],2⟩) else (.ret,⟨[(2,.lst true 1 []),(3,.int .i64 q.2),(4,.ref 1 0 q.1.length)],[(1,⟨false,false,1,ints q.1,0⟩)],2⟩)
theorem look_stop {pl r : List Nd} {d : Nd} {out : List Int} {i : Nat} {c : Int} (e : pl.drop i = d :: r) (h : stepC pl d out = c) (hc : c ≠ 0) : lookE (lookR pl (pl.drop i) out) = (.ret,⟨[(2,.lst true 1 []),(3,.int .i64 c),(4,.ref 1 0 out.length)],[(1,⟨false,false,1,ints out,0⟩)],2⟩) := by
  subst h
  rw [e,lookR,if_neg hc,lookE,if_neg hc]
theorem look_go {pl r : List Nd} {d : Nd} {out : List Int} {i : Nat} (e : pl.drop i = d :: r) (h : stepC pl d out = 0) : lookR pl (pl.drop i) out = lookR pl r (out ++ [widthN d out]) := by
  rw [e,lookR,if_pos h]
theorem l_look (pl : List Nd) (hp : pl.length < 2000000) (hk : okN pl) : ∀ out : List Int,out.length ≤ pl.length → ∀ s,normE 1 (some [0,4,15,16,17]) s = ⟨[(0,.lst false 0 (nds false 0 pl)),(4,.ref 1 0 out.length),(15,.lst false 0 (nds false 0 pl)),(16,.int .i64 pl.length),(17,.int .i64 out.length)],[(1,⟨false,false,1,ints out,0⟩)],2⟩ →
 oc.loop 47 5 s = some (lookE (lookR pl (pl.drop out.length) out)) := by
 refine loop_ind (fun out => pl.length - out.length) _ (fun out => ⟨[(0,.lst false 0 (nds false 0 pl)),(4,.ref 1 0 out.length),(15,.lst false 0 (nds false 0 pl)),(16,.int .i64 pl.length),(17,.int .i64 out.length)],[(1,⟨false,false,1,ints out,0⟩)],2⟩) _ ?_
 intro out hi ih s hs
 refine loop_s cd47 rfl rfl hs ?_
 refine wa_ (wc_region (w_ (b_ (h:=wo_nil (e_ (h:=aft_normal (wa_ (?_))))))))
 refine c_ (h1:=?_) (h2:=?_)
 rotate_right 1
 focus
  intro c1
  first
  | exact dn c1
  | (
   have d1 := c1;try simp at d1
   have hn : pl.length = out.length := (by omega)
   refine wc_exit (?_)
   )
 rotate_right 1
 focus
  intro c1
  first
  | exact dn c1
  | (
   have d1 := c1;try simp at d1
   have hw := wrap_succ (i:=out.length) (by omega);obtain ⟨d,hx,e1,g1⟩ := nds_cut (t:=false) (s:=0) (l:=pl) (i:=out.length) (by omega);simp at g1;have hd := hk d (List.mem_of_getElem? hx);by_cases h3 : d.op = 3
   all_goals
    refine wc_skip (?_)
   )
 all_goals first
 | refine aft_exit ?_
 | (
  refine aft_normal ?_
  refine wa_ (wc_block (wa_ (wc_region (w_ (m_ (h:=w_ (x_ (h:=w_ (l_ (h:=w_ (al (h:=w_ (a_ (h:=w0 (s_ (h:=wo_nil (e_ (h:=aft_normal (wa_ (wc_block (wa_ (wc_region (w_ (f_ (h:=w_ (l_ (h:=w_ (ca (hc:=e_in _ _ _) (h:=w_ (u_ (h:=w_ (a_ (h:=wo_nil (e_ (h:=aft_normal (?_))))))))))))))))))))))))))))))))))))
  refine c_ (h1:=?_) (h2:=?_)
  rotate_right 1
  focus
   intro c2
   first
   | exact dn c2
   | (
    have d2 := c2;try simp at d2
    refine wa_ (wc_draw (y_ (l_ (h:=ax_ (h:=y_ (l_ (h:=ax_ (h:=?_))))))))
    first | refine y_ (ca (hc:=e_plain3 0 d h3) (h:=?_)) | refine y_ (ca (hc:=e_plain 0 d h3) (h:=?_))
    refine ax_ (h:=y_ (ca (hc:=e_same 0 0 d (plainN d) (by omega) (by have := plain_len d;omega)) (h:=ax_ (h:=y_ (u_ (h:=ax_ (h:=y_ (a_ (h:=ax_ (h:=wo_nil (ed (h:=aft_normal (?_)))))))))))))
    refine c_ (h1:=?_) (h2:=?_)
    rotate_right 1
    focus
     intro c3
     first
     | exact dn c3
     | (
      have d3 := c3;try simp at d3
      refine wc_skip (?_)
      )
    rotate_right 1
    focus
     intro c3
     first
     | exact dn c3
     | (
      have d3 := c3;try simp at d3
      refine wa_ (wc_region (w_ (aN (h:=w_ (a_ (h:=wo_nil (e_ (h:=aft_normal (wc_ret (?_))))))))))
      )
    )
  rotate_right 1
  focus
   intro c2
   first
   | exact dn c2
   | (
    have d2 := c2;try simp at d2
    refine wa_ (wc_region (w_ (aN (h:=w_ (a_ (h:=wo_nil (e_ (h:=aft_normal (wc_ret (?_))))))))))
    )
  all_goals first | refine blk_normal ?_ | refine blk_ret ?_
  all_goals first
  | refine aft_ret ?_
  | (
   refine aft_normal ?_
   refine wa_ (wa_ (wc_region (w_ (l_ (h:=w_ (ca (hc:=e_reads 0 d) (h:=w_ (le (h:=w_ (m_ (h:=wo_nil (e_ (h:=aft_normal (wc_block (?_)))))))))))))))
   refine wc_loopI (l_reads pl out (readsN d) d out.length (by omega) (by omega) (by unfold readsN;split;simp;split <;> simp) 0 (by omega) _ (by simp [normE])) ?_ ?_
   rotate_right 1
   focus
    intro c4
    first
    | exact dn c4
    | (
     have d4 := c4;try simp at d4
     have d4' : (readsN d).all (okR pl out.length) = false := (by simpa using c4)
     skip
     )
   rotate_right 1
   focus
    intro c4
    first
    | exact dn c4
    | (
     have d4 := c4;try simp at d4
     have d4' : (readsN d).all (okR pl out.length) = true := (by simpa using c4);have hf := fit_of (i:=out.length) (by omega) (by simpa using c4)
     skip
     )
   all_goals first | refine blk_ret ?_ | refine blk_exit ?_
   all_goals first
   | refine aft_ret ?_
   | (
    refine aft_normal ?_
    refine wa_ (wa_ (wc_region (w_ (l_ (h:=w_ (m_ (h:=w_ (ca (hc:=e_fault 0 0 d out (by omega) hf (by simp [inI] at d2;omega)) (h:=w_ (a_ (h:=wo_nil (e_ (h:=aft_normal (wa_ (wc_region (w_ (m_ (h:=w_ (bE (h:=wo_nil (e_ (h:=aft_normal (?_)))))))))))))))))))))))
    refine c_ (h1:=?_) (h2:=?_)
    rotate_right 1
    focus
     intro c5
     first
     | exact dn c5
     | (
      have d5 := c5;try simp at d5
      refine wc_skip (?_)
      )
    rotate_right 1
    focus
     intro c5
     first
     | exact dn c5
     | (
      have d5 := c5;try simp at d5
      refine wa_ (wc_region (w_ (m_ (h:=w_ (aN (h:=w_ (a_ (h:=wo_nil (e_ (h:=aft_normal (wc_ret (?_))))))))))))
      )
    all_goals first
    | refine aft_ret ?_
    | (
     refine aft_normal ?_
     refine wc_region (w_ (m_ (h:=w_ (l_ (h:=w_ (m_ (h:=w_ (ca (hc:=e_width 0 0 d out (by omega) hf) (h:=w_ (bs (h:=w_ (ap (h:=w_ (a_ (h:=wo_nil (e_ (h:=?_)))))))))))))))))
     )
    )
   )
  all_goals first | refine blk_normal ?_ | refine blk_ret ?_
  all_goals first
  | refine aft_ret ?_
  | (
   refine aft_normal ?_
   refine wc_region (w_ (b_ (h:=w_ (m_ (h:=wo_nil (e_ (h:=?_)))))))
   )
  )
 all_goals first
 | (refine (ih (out ++ [widthN d out]) (by simp;omega) ?_ _ ?_).trans ?_;(focus (first | omega | (simp;done) | (simp;omega)));(focus (simp [normE,hw];done));(focus (rw [look_go e1 (by grind [stepC])];simp)))
 | (apply end_leaf (ex:=Ext.ret) 1 (some [2,3,4]);(focus (simp [normE];rfl));(focus (exact (look_stop e1 (c:=5) (by grind [stepC]) (by decide)).symm)))
 | (apply end_leaf (ex:=Ext.ret) 1 (some [2,3,4]);(focus (simp [normE];rfl));(focus (exact (look_stop e1 (c:=1) (by grind [stepC]) (by decide)).symm)))
 | (apply end_leaf (ex:=Ext.ret) 1 (some [2,3,4]);(focus (simp [normE];rfl));(focus (exact (look_stop e1 (c:=3) (by grind [stepC]) (by decide)).symm)))
 | (apply end_leaf (ex:=Ext.ret) 1 (some [2,3,4]);(focus (simp [normE];rfl));(focus (exact (look_stop e1 (c:=faultN d out) (by grind [stepC]) (by omega)).symm)))
 | (apply end_leaf (ex:=(Ext.exit 0)) 1 (some [2,3,4]);(focus (simp [normE];rfl));(focus (rw [List.drop_eq_nil_of_le (by omega)];simp [lookR,lookE])))
def lookN (pl : List Nd) : List Int × Int :=
  if inI pl.length 1 8 = false then ([],2) else if (lookR pl pl []).2 = 0 then lookR pl pl [] else ([],(lookR pl pl []).2)
theorem e_looked (pl : List Nd) (hp : pl.length < 2000000) (hk : okN pl) : oc.call 47 [.lst false 0 (nds false 0 pl)] = some (.tup [.lst true 1 (ints (lookN pl).1),.int .i64 (lookN pl).2],[]) := by
 refine fun_s rfl cd47 rfl rfl rfl (by simp;rfl) (by simp;rfl) ?_
 refine wa_ (wc_region (w_ (aN (h:=w_ (a_ (h:=wo_nil (e_ (h:=aft_normal (wa_ (wa_ (wc_region (w_ (m_ (h:=w_ (ca (hc:=e_sizeN _ _ (by simp;omega)) (h:=w_ (ca (hc:=e_in _ _ _) (h:=w_ (u_ (h:=wo_nil (e_ (h:=aft_normal (?_)))))))))))))))))))))))
 refine c_ (h1:=?_) (h2:=?_)
 rotate_right 1
 focus
  intro c1
  refine wc_skip (?_)
 rotate_right 1
 focus
  intro c1
  refine wa_ (wc_region (w_ (aN (h:=w_ (a_ (h:=wo_nil (e_ (h:=aft_normal (wc_ret (?_))))))))))
 all_goals first
 | refine aft_ret ?_
 | (
  refine aft_normal ?_
  refine wa_ (wc_region (w_ (bs (h:=w_ (a_ (h:=wo_nil (e_ (h:=aft_normal (wa_ (wa_ (wc_region (w_ (m_ (h:=w_ (le (h:=w_ (m_ (h:=wo_nil (e_ (h:=aft_normal (wc_block (?_))))))))))))))))))))))
  refine wc_loopI ((l_look pl hp hk [] (by simp) _ (by simp [normE])).trans (by rw [lookE])) ?_ ?_
  rotate_right 1
  focus
   intro c2
   skip
  rotate_right 1
  focus
   intro c2
   skip
  all_goals first | refine blk_ret ?_ | refine blk_exit ?_
  all_goals first
  | refine aft_ret ?_
  | (
   refine aft_normal ?_
   refine wa_ (wc_region (w_ (m_ (h:=w_ (a_ (h:=w_ (a_ (h:=wo_nil (e_ (h:=aft_normal (wc_ret (?_))))))))))))
   )
  )
 all_goals (refine fin_ (hr:=(res_tmp rfl (res_tmp rfl res_nil))) (h:=?_);(focus (simp_all [lookN])))
end Go.Proofs.YtadaeiahfidodaaGreat.Ev
