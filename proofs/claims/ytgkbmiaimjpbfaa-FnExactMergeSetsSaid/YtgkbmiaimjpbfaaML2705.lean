/- Part 5 of the proof that the law named in the last part returns true at every argument: an evaluator of the program, shown sound, and its runs. No further conditions. -/
import Derived.Test.YtgkbmiaimjpbfaaML2704
namespace Go.Proofs.Ytgkbmiaimjpbfaa.Ev
open Go
set_option maxRecDepth 100000
set_option linter.unusedSimpArgs false
set_option linter.unusedVariables false
set_option maxHeartbeats 2000000
def prevG {α : Type} (l : List α) (i : Nat) : Option α := if i = 0 then none else l[i - 1]?
theorem prevG_succ {α : Type} {l : List α} {i : Nat} {c : α} (h : l[i]? = some c) : prevG l (i + 1) = some c := by simp [prevG,h]
theorem prevE_pos {l : List Et} {i : Nat} (h0 : 0 < i) (h : i ≤ l.length) (hi : i < 2000000000) : ∃ q,q ∈ l ∧ prevG l i = some q ∧ (ets false l)[(IntKind.i64.wrap ((i : Int) - 1)).toNat]? = some (q.v false) ∧ 0 ≤ IntKind.i64.wrap ((i : Int) - 1) := by
  have hw : IntKind.i64.wrap ((i : Int) - 1) = ((i - 1 : Nat) : Int) := by rw [wrap_id (by omega) (by omega)];omega
  have hlt : i - 1 < l.length := by omega
  refine ⟨l[i - 1],List.getElem_mem hlt,?_,?_,by rw [hw];omega⟩
  · unfold prevG;rw [if_neg (by omega)];simp [hlt]
  · rw [hw];exact ets_at hlt
def wOk (n : Int) : Bool := inI n (-1000000000000) 1000000000000
def setR : Option Et → List Et → Int
  | _,[] => 0
  | p,e :: r => if rowF e.row = 0 then (if wOk e.w = false ∨ e.w = 0 then 3 else if (p.elim false fun q => decide (0 ≤ cmpL q.row e.row)) = true then 1 else setR (some e) r) else rowF e.row
def setC (z : List Et) : Int := if 200 < z.length then 2 else setR none z
theorem setR_row {p : Option Et} {e : Et} {r : List Et} (h : ¬ rowF e.row = 0) : setR p (e :: r) = rowF e.row := by rw [setR,if_neg h]
theorem setR_3 {p : Option Et} {e : Et} {r : List Et} (h : rowF e.row = 0) (h2 : wOk e.w = false ∨ e.w = 0) : setR p (e :: r) = 3 := by rw [setR,if_pos h,if_pos h2]
theorem setR_1 {p : Option Et} {e : Et} {r : List Et} (h : rowF e.row = 0) (h2 : ¬ (wOk e.w = false ∨ e.w = 0)) (h3 : (p.elim false fun q => decide (0 ≤ cmpL q.row e.row)) = true) : setR p (e :: r) = 1 := by rw [setR,if_pos h,if_neg h2,if_pos h3]
theorem setR_0 {p : Option Et} {e : Et} {r : List Et} (h : rowF e.row = 0) (h2 : ¬ (wOk e.w = false ∨ e.w = 0)) (h3 : ¬ (p.elim false fun q => decide (0 ≤ cmpL q.row e.row)) = true) : setR p (e :: r) = setR (some e) r := by rw [setR,if_pos h,if_neg h2,if_neg h3]
theorem l_setI (z : List Et) (hz : w_Ets z < 2000000) (hl : z.length ≤ 200) : ∀ i : Nat,(i ≤ z.length) → ∀ s,normE 1 (some [0,9,10,11]) s = ⟨[(0,.lst false 0 (ets false z)),(9,.lst false 0 (ets false z)),(10,.int .i64 z.length),(11,.int .i64 i)],[],1⟩ →
 oc.loop 76 4 s = some (if setR (prevG z i) (z.drop i) = 0 then (.exit 0,⟨[],[],1⟩) else (.ret,⟨[(2,.int .i64 (setR (prevG z i) (z.drop i)))],[],1⟩)) := by
 refine loop_ind (σ:=Nat) (fun i => z.length - i) _ (fun i => ⟨[(0,.lst false 0 (ets false z)),(9,.lst false 0 (ets false z)),(10,.int .i64 z.length),(11,.int .i64 i)],[],1⟩) _ ?_
 intro i hi ih s hs
 refine loop_s cd76 rfl rfl hs ?_
 refine wa_ (wc_region (w_ (b_ (h:=wo_nil (e_ (h:=aft_normal (wa_ (?_))))))))
 refine c_ (h1:=?_) (h2:=?_)
 rotate_right 1
 focus
  intro c1
  first
  | exact dn c1
  | (
   have d1 := c1;try simp at d1
   refine wc_exit (?_)
   )
 rotate_right 1
 focus
  intro c1
  first
  | exact dn c1
  | (
   have d1 := c1;try simp at d1
   have hw := wrap_succ (i:=i) (by omega);obtain ⟨c,hx,e1,g1⟩ := ets_cut (t:=false) (l:=z) (i:=i) (by omega);have hs1 := prevG_succ hx;have hm := w_Ets_mem (List.mem_of_getElem? hx);have hrow : c.row.length < 2000000 := (by unfold w_Et at hm;omega)
   refine wc_skip (?_)
   )
 all_goals first
 | refine aft_exit ?_
 | (
  refine aft_normal ?_
  refine wa_ (wc_block (wa_ (wc_region (w_ (m_ (h:=w_ (x_ (h:=w_ (l_ (h:=w_ (al (h:=w_ (a_ (h:=w0 (s_ (h:=wo_nil (e_ (h:=aft_normal (?_)))))))))))))))))))
  refine wa_ (wa_ (wc_region (w_ (f_ (h:=w_ (l_ (h:=w_ (ca (hc:=e_rowI c.row hrow) (h:=w_ (a_ (h:=wo_nil (e_ (h:=aft_normal (wa_ (wc_region (w_ (m_ (h:=?_))))))))))))))))))
  refine w_ (bE (h:=wo_nil (e_ (h:=aft_normal (?_)))))
  refine c_ (h1:=?_) (h2:=?_)
  rotate_right 1
  focus
   intro c2
   first
   | exact dn c2
   | (
    have d2 := c2;try simp at d2
    refine wc_skip (?_)
    )
  rotate_right 1
  focus
   intro c2
   first
   | exact dn c2
   | (
    have d2 := c2;try simp at d2
    refine wa_ (wc_region (w_ (m_ (h:=w_ (a_ (h:=wo_nil (e_ (h:=aft_normal (wc_ret (?_))))))))))
    )
  all_goals first
  | refine aft_ret ?_
  | (
   refine aft_normal ?_
   refine wa_ (wa_ (wc_region (w_ (f_ (h:=w_ (l_ (h:=w_ (ca (hc:=e_isWeight _) (h:=w_ (u_ (h:=w_ (m_ (h:=?_)))))))))))))
   refine gw_ (h1:=?_) (h2:=?_)
   rotate_right 1
   focus
    intro c3
    first
    | exact dn c3
    | (
     have d3 := c3;try simp at d3
     refine go_ (h:=go_ (h:=go_ (h:=?_)))
     )
   rotate_right 1
   focus
    intro c3
    first
    | exact dn c3
    | (
     have d3 := c3;try simp at d3
     refine g_ (h:=w_ (f_ (h:=g_ (h:=w_ (l_ (h:=g_ (h:=w_ (bE (h:=?_)))))))))
     )
   all_goals
    refine w_ (pk (h:=wo_nil (e_ (h:=?_))))
   all_goals first
   | (
    refine aft_normal ?_
    refine c_ (h1:=?_) (h2:=?_)
    rotate_right 1
    focus
     intro c4
     first
     | exact dn c4
     | (
      have d4 := c4;try simp at d4
      refine wc_skip (?_)
      )
    rotate_right 1
    focus
     intro c4
     first
     | exact dn c4
     | (
      have d4 := c4;try simp at d4
      refine wa_ (wc_region (w_ (a_ (h:=wo_nil (e_ (h:=aft_normal (wc_ret (?_))))))))
      )
    )
   all_goals first
   | refine aft_ret ?_
   | (
    refine aft_normal ?_
    refine wa_ (wc_draw (y_ (m_ (h:=ax_ (h:=y_ (b_ (h:=ax_ (h:=y_ (m_ (h:=ax_ (h:=?_)))))))))))
    refine gw_ (h1:=?_) (h2:=?_)
    rotate_right 1
    focus
     intro c5
     first
     | exact dn c5
     | (
      have d5 := c5;try simp at d5
      refine gd_ (h:=gd_ (h:=gd_ (h:=gd_ (h:=gd_ (h:=gd_ (h:=gd_ (h:=gd_ (h:=gd_ (h:=gd_ (h:=?_))))))))))
      )
    rotate_right 1
    focus
     intro c5
     first
     | exact dn c5
     | (
      have d5 := c5;try simp at d5
      obtain ⟨q,hqm,hq,g2,g3⟩ := prevE_pos (l:=z) (i:=i) (by omega) (by omega) (by omega);have hm2 := w_Ets_mem hqm;have hrow2 : q.row.length < 2000000 := (by unfold w_Et at hm2;omega)
      refine g_ (h:=y_ (m_ (h:=ax_ (h:=g_ (h:=y_ (m_ (h:=ax_ (h:=g_ (h:=y_ (b_ (h:=ax_ (h:=g_ (h:=y_ (x_ (h:=ax_ (h:=g_ (h:=y_ (f_ (h:=ax_ (h:=g_ (h:=y_ (l_ (h:=ax_ (h:=g_ (h:=y_ (f_ (h:=ax_ (h:=g_ (h:=y_ (l_ (h:=ax_ (h:=g_ (h:=y_ (ca (hc:=e_cmpRI q.row c.row hrow2 hrow) (h:=ax_ (h:=g_ (h:=y_ (b_ (h:=ax_ (h:=?_))))))))))))))))))))))))))))))))))))))))
      )
    all_goals
     refine y_ (pk (h:=ax_ (h:=wo_nil (ed (h:=?_)))))
    all_goals first
    | (
     refine aft_normal ?_
     refine c_ (h1:=?_) (h2:=?_)
     rotate_right 1
     focus
      intro c6
      first
      | exact dn c6
      | (
       have d6 := c6;try simp at d6
       refine wc_skip (?_)
       )
     rotate_right 1
     focus
      intro c6
      first
      | exact dn c6
      | (
       have d6 := c6;try simp at d6
       refine wa_ (wc_region (w_ (a_ (h:=wo_nil (e_ (h:=aft_normal (wc_ret (?_))))))))
       )
     )
    )
   )
  all_goals first | refine blk_normal ?_ | refine blk_ret ?_
  all_goals first
  | refine aft_ret ?_
  | (
   refine aft_normal ?_
   refine wc_region (w_ (b_ (h:=w_ (m_ (h:=wo_nil (e_ (h:=?_)))))))
   )
  )
 all_goals first
 | (refine (ih (i + 1) (by omega) ?_ _ ?_).trans ?_;(focus (first | omega | (simp;done) | (simp;omega)));(focus (simp [normE,hw];done));(focus (rw [hs1,e1,setR_0 d2 (by simp [wOk,d3,d4]) (by first | (rw [hq];simp;omega) | (subst d5;simp [prevG]))])))
 | (apply end_leaf (ex:=Ext.ret) 1 (some [2]);(focus (simp [normE];rfl));(focus (rw [e1,setR_row d2];simp [d2])))
 | (apply end_leaf (ex:=Ext.ret) 1 (some [2]);(focus (simp [normE];rfl));(focus (rw [e1,setR_3 d2 (by first | exact .inl d3 | exact .inr d4)];simp)))
 | (apply end_leaf (ex:=Ext.ret) 1 (some [2]);(focus (simp [normE];rfl));(focus (rw [e1,setR_1 d2 (by simp [wOk,d3,d4]) (by rw [hq];simp;omega)];simp)))
 | (apply end_leaf (ex:=(Ext.exit 0)) 1 (some [2]);(focus (simp [normE];rfl));(focus (rw [List.drop_eq_nil_of_le (by omega)];simp [setR])))
theorem e_setI (z : List Et) (hz : w_Ets z < 2000000) : oc.call 76 [.lst false 0 (ets false z)] = some (.int .i64 (setC z),[]) := by
 refine fun_s rfl cd76 rfl rfl rfl (by simp;rfl) (by simp;rfl) ?_
 refine wa_ (wc_region (w_ (a_ (h:=wo_nil (e_ (h:=aft_normal (wa_ (wa_ (wc_region (w_ (m_ (h:=w_ (le (h:=w_ (b_ (h:=wo_nil (e_ (h:=?_))))))))))))))))))
 refine aft_normal (?_)
 refine c_ (h1:=?_) (h2:=?_)
 rotate_right 1
 focus
  intro c1
  first
  | exact dn c1
  | (
   have d1 := c1;try simp at d1
   refine wc_skip (?_)
   )
 rotate_right 1
 focus
  intro c1
  first
  | exact dn c1
  | (
   have d1 := c1;try simp at d1
   refine wa_ (wc_region (w_ (a_ (h:=wo_nil (e_ (h:=aft_normal (wc_ret (?_))))))))
   )
 all_goals first
 | refine aft_ret ?_
 | (
  refine aft_normal ?_
  refine wa_ (wa_ (wc_region (w_ (m_ (h:=w_ (le (h:=w_ (m_ (h:=wo_nil (e_ (h:=aft_normal (wc_block (?_)))))))))))))
  refine wc_loopI (l_setI z hz (by omega) 0 (by omega) _ (by simp [normE])) ?_ ?_
  rotate_right 1
  focus
   intro c2
   first
   | exact dn c2
   | (
    have d2 := c2;try simp at d2
    skip
    )
  rotate_right 1
  focus
   intro c2
   first
   | exact dn c2
   | (
    have d2 := c2;try simp at d2
    skip
    )
  all_goals first | refine blk_ret ?_ | refine blk_exit ?_
  all_goals first
  | refine aft_ret ?_
  | (
   refine aft_normal ?_
   refine wa_ (wc_region (w_ (a_ (h:=wo_nil (e_ (h:=aft_normal (wc_ret (?_))))))))
   )
  )
 all_goals (refine fin_ (hr:=(res_tmp rfl res_nil)) (h:=?_);(focus (simp [setC,prevG] at * <;> grind)))
theorem l_setS (z : List Et) (hz : w_Ets z < 2000000) (hl : z.length ≤ 200) : ∀ i : Nat,(i ≤ z.length) → ∀ s,normE 1 (some [0,3]) s = ⟨[(0,.lst false 0 (ets false z)),(3,.int .i64 i)],[],1⟩ →
 oc.loop 70 4 s = some (if setR (prevG z i) (z.drop i) = 0 then (.exit 0,⟨[],[],1⟩) else (.ret,⟨[(2,.int .i64 (setR (prevG z i) (z.drop i)))],[],1⟩)) := by
 refine loop_ind (σ:=Nat) (fun i => z.length - i) _ (fun i => ⟨[(0,.lst false 0 (ets false z)),(3,.int .i64 i)],[],1⟩) _ ?_
 intro i hi ih s hs
 refine loop_s cd70 rfl rfl hs ?_
 refine wa_ (wa_ (wc_region (w_ (m_ (h:=w_ (m_ (h:=w_ (le (h:=w_ (b_ (h:=wo_nil (e_ (h:=aft_normal (?_))))))))))))))
 refine c_ (h1:=?_) (h2:=?_)
 rotate_right 1
 focus
  intro c1
  first
  | exact dn c1
  | (
   have d1 := c1;try simp at d1
   refine wc_exit (?_)
   )
 rotate_right 1
 focus
  intro c1
  first
  | exact dn c1
  | (
   have d1 := c1;try simp at d1
   have hw := wrap_succ (i:=i) (by omega);obtain ⟨c,hx,e1,g1⟩ := ets_cut (t:=false) (l:=z) (i:=i) (by omega);have hs1 := prevG_succ hx;have hm := w_Ets_mem (List.mem_of_getElem? hx);have hrow : c.row.length < 2000000 := (by unfold w_Et at hm;omega)
   refine wc_skip (?_)
   )
 all_goals first
 | refine aft_exit ?_
 | (
  refine aft_normal ?_
  refine wa_ (wc_block (wa_ (wa_ (wc_region (w_ (m_ (h:=w_ (m_ (h:=w_ (x_ (h:=w_ (f_ (h:=w_ (l_ (h:=w_ (ca (hc:=e_rowS c.row hrow) (h:=w_ (a_ (h:=?_)))))))))))))))))))
  refine wo_nil (e_ (h:=aft_normal (wa_ (wc_region (w_ (m_ (h:=w_ (bE (h:=wo_nil (e_ (h:=aft_normal (?_))))))))))))
  refine c_ (h1:=?_) (h2:=?_)
  rotate_right 1
  focus
   intro c2
   first
   | exact dn c2
   | (
    have d2 := c2;try simp at d2
    refine wc_skip (?_)
    )
  rotate_right 1
  focus
   intro c2
   first
   | exact dn c2
   | (
    have d2 := c2;try simp at d2
    refine wa_ (wc_region (w_ (m_ (h:=w_ (a_ (h:=wo_nil (e_ (h:=aft_normal (wc_ret (?_))))))))))
    )
  all_goals first
  | refine aft_ret ?_
  | (
   refine aft_normal ?_
   refine wa_ (wa_ (wc_region (w_ (m_ (h:=w_ (m_ (h:=w_ (x_ (h:=w_ (f_ (h:=w_ (l_ (h:=w_ (ca (hc:=e_l1Weight _) (h:=w_ (u_ (h:=w_ (m_ (h:=?_)))))))))))))))))))
   refine gw_ (h1:=?_) (h2:=?_)
   rotate_right 1
   focus
    intro c3
    first
    | exact dn c3
    | (
     have d3 := c3;try simp at d3
     refine go_ (h:=go_ (h:=go_ (h:=go_ (h:=go_ (h:=go_ (h:=?_))))))
     )
   rotate_right 1
   focus
    intro c3
    first
    | exact dn c3
    | (
     have d3 := c3;try simp at d3
     refine g_ (h:=w_ (m_ (h:=g_ (h:=w_ (m_ (h:=g_ (h:=w_ (x_ (h:=g_ (h:=w_ (f_ (h:=g_ (h:=w_ (l_ (h:=g_ (h:=w_ (bE (h:=?_))))))))))))))))))
     )
   all_goals
    refine w_ (pk (h:=wo_nil (e_ (h:=?_))))
   all_goals first
   | (
    refine aft_normal ?_
    refine c_ (h1:=?_) (h2:=?_)
    rotate_right 1
    focus
     intro c4
     first
     | exact dn c4
     | (
      have d4 := c4;try simp at d4
      refine wc_skip (?_)
      )
    rotate_right 1
    focus
     intro c4
     first
     | exact dn c4
     | (
      have d4 := c4;try simp at d4
      refine wa_ (wc_region (w_ (a_ (h:=wo_nil (e_ (h:=aft_normal (wc_ret (?_))))))))
      )
    )
   all_goals first
   | refine aft_ret ?_
   | (
    refine aft_normal ?_
    refine wa_ (wc_draw (y_ (m_ (h:=ax_ (h:=y_ (b_ (h:=ax_ (h:=y_ (m_ (h:=ax_ (h:=?_)))))))))))
    refine gw_ (h1:=?_) (h2:=?_)
    rotate_right 1
    focus
     intro c5
     first
     | exact dn c5
     | (
      have d5 := c5;try simp at d5
      refine gd_ (h:=gd_ (h:=gd_ (h:=gd_ (h:=gd_ (h:=gd_ (h:=gd_ (h:=gd_ (h:=gd_ (h:=gd_ (h:=gd_ (h:=gd_ (h:=?_))))))))))))
      refine gd_ (h:=?_)
      )
    rotate_right 1
    focus
     intro c5
     first
     | exact dn c5
     | (
      have d5 := c5;try simp at d5
      obtain ⟨q,hqm,hq,g2,g3⟩ := prevE_pos (l:=z) (i:=i) (by omega) (by omega) (by omega);have hm2 := w_Ets_mem hqm;have hrow2 : q.row.length < 2000000 := (by unfold w_Et at hm2;omega);have han := cmpL_anti c.row q.row
      refine g_ (h:=y_ (m_ (h:=ax_ (h:=g_ (h:=y_ (m_ (h:=ax_ (h:=g_ (h:=y_ (x_ (h:=ax_ (h:=g_ (h:=y_ (f_ (h:=ax_ (h:=g_ (h:=y_ (l_ (h:=ax_ (h:=g_ (h:=y_ (m_ (h:=ax_ (h:=g_ (h:=y_ (m_ (h:=ax_ (h:=g_ (h:=y_ (b_ (h:=ax_ (h:=g_ (h:=y_ (x_ (h:=ax_ (h:=g_ (h:=y_ (f_ (h:=ax_ (h:=g_ (h:=y_ (l_ (h:=ax_ (h:=g_ (h:=y_ (ca (hc:=e_cmpRS c.row q.row hrow hrow2) (h:=ax_ (h:=?_))))))))))))))))))))))))))))))))))))))))))))))))
      refine g_ (h:=y_ (b_ (h:=ax_ (h:=?_))))
      )
    all_goals
     refine y_ (pk (h:=ax_ (h:=wo_nil (ed (h:=?_)))))
    all_goals first
    | (
     refine aft_normal ?_
     refine c_ (h1:=?_) (h2:=?_)
     rotate_right 1
     focus
      intro c6
      first
      | exact dn c6
      | (
       have d6 := c6;try simp at d6
       refine wc_skip (?_)
       )
     rotate_right 1
     focus
      intro c6
      first
      | exact dn c6
      | (
       have d6 := c6;try simp at d6
       refine wa_ (wc_region (w_ (a_ (h:=wo_nil (e_ (h:=aft_normal (wc_ret (?_))))))))
       )
     )
    )
   )
  all_goals first | refine blk_normal ?_ | refine blk_ret ?_
  all_goals first
  | refine aft_ret ?_
  | (
   refine aft_normal ?_
   refine wc_region (w_ (m_ (h:=w_ (b_ (h:=w_ (a_ (h:=wo_nil (e_ (h:=?_)))))))))
   )
  )
 all_goals first
 | (refine (ih (i + 1) (by omega) ?_ _ ?_).trans ?_;(focus (first | omega | (simp;done) | (simp;omega)));(focus (simp [normE,hw];done));(focus (rw [hs1,e1,setR_0 d2 (by simp [wOk,d3,d4]) (by first | (rw [hq];simp;omega) | (subst d5;simp [prevG]))])))
 | (apply end_leaf (ex:=Ext.ret) 1 (some [2]);(focus (simp [normE];rfl));(focus (rw [e1,setR_row d2];simp [d2])))
 | (apply end_leaf (ex:=Ext.ret) 1 (some [2]);(focus (simp [normE];rfl));(focus (rw [e1,setR_3 d2 (by first | exact .inl d3 | exact .inr d4)];simp)))
 | (apply end_leaf (ex:=Ext.ret) 1 (some [2]);(focus (simp [normE];rfl));(focus (rw [e1,setR_1 d2 (by simp [wOk,d3,d4]) (by rw [hq];simp;omega)];simp)))
 | (apply end_leaf (ex:=(Ext.exit 0)) 1 (some [2]);(focus (simp [normE];rfl));(focus (rw [List.drop_eq_nil_of_le (by omega)];simp [setR])))
theorem e_setS (z : List Et) (hz : w_Ets z < 2000000) : oc.call 70 [.lst false 0 (ets false z)] = some (.int .i64 (setC z),[]) := by
 refine fun_s rfl cd70 rfl rfl rfl (by simp;rfl) (by simp;rfl) ?_
 refine wa_ (wc_region (w_ (a_ (h:=wo_nil (e_ (h:=aft_normal (wa_ (wa_ (wc_region (w_ (m_ (h:=w_ (le (h:=w_ (b_ (h:=wo_nil (e_ (h:=?_))))))))))))))))))
 refine aft_normal (?_)
 refine c_ (h1:=?_) (h2:=?_)
 rotate_right 1
 focus
  intro c1
  first
  | exact dn c1
  | (
   have d1 := c1;try simp at d1
   refine wc_skip (?_)
   )
 rotate_right 1
 focus
  intro c1
  first
  | exact dn c1
  | (
   have d1 := c1;try simp at d1
   refine wa_ (wc_region (w_ (a_ (h:=wo_nil (e_ (h:=aft_normal (wc_ret (?_))))))))
   )
 all_goals first
 | refine aft_ret ?_
 | (
  refine aft_normal ?_
  refine wa_ (wa_ (wc_region (w_ (a_ (h:=wo_nil (e_ (h:=aft_normal (wc_block (?_)))))))))
  refine wc_loopI (l_setS z hz (by omega) 0 (by omega) _ (by simp [normE])) ?_ ?_
  rotate_right 1
  focus
   intro c2
   first
   | exact dn c2
   | (
    have d2 := c2;try simp at d2
    skip
    )
  rotate_right 1
  focus
   intro c2
   first
   | exact dn c2
   | (
    have d2 := c2;try simp at d2
    skip
    )
  all_goals first | refine blk_ret ?_ | refine blk_exit ?_
  all_goals first
  | refine aft_ret ?_
  | (
   refine aft_normal ?_
   refine wa_ (wc_region (w_ (a_ (h:=wo_nil (e_ (h:=aft_normal (wc_ret (?_))))))))
   )
  )
 all_goals (refine fin_ (hr:=(res_tmp rfl res_nil)) (h:=?_);(focus (simp [setC,prevG] at * <;> grind)))
def mkI (k : Int) (n : Nat) : List Int := (List.range n).map fun (i : Nat) => k + i
@[simp] theorem mkI_len {k : Int} {n : Nat} : (mkI k n).length = n := by simp [mkI]
theorem mkI_at {k : Int} {n i : Nat} (h : i < n) : (mkI k n)[i]? = some (k + i) := by simp [mkI,h]
theorem alikeL_map {α : Type} {f g : α → V} (hf : ∀ x y,(f x).alike (g y) = true) : ∀ {a b : List α},V.alikeL (a.map f) (b.map g) = decide (a.length = b.length)
  | [],[] => rfl
  | [],_ :: _ => by simp [V.alikeL]
  | _ :: _,[] => by simp [V.alikeL]
  | x :: a,y :: b => by simp only [List.map_cons,V.alikeL,hf,Bool.true_and,alikeL_map hf (a:=a) (b:=b),List.length_cons,Nat.add_right_cancel_iff]
@[simp] theorem alike_ints (a b : List Int) : V.alikeL (ints a) (ints b) = decide (a.length = b.length) := alikeL_map (fun _ _ => rfl)
theorem set_drop {α : Type} {r l : List α} {i : Nat} {x : α} (h : r.drop i = l.drop i) : (r.set i x).drop (i + 1) = l.drop (i + 1) := by
  rw [List.drop_set_of_lt (by omega),← List.drop_drop,h,List.drop_drop]
theorem wS_cut {α : Type} {f : α → Nat} {l : List α} {i : Nat} {x : α} (h : l[i]? = some x) : wS f (l.take (i + 1)) = wS f (l.take i) + f x := by
  induction l generalizing i with
  | nil => simp at h
  | cons y r ih =>
    cases i with
    | zero => simp at h;subst h;simp
    | succ i => simp at h;simp only [List.take_succ_cons,wS_cons];rw [ih h];omega
theorem wS_take {α : Type} {f : α → Nat} {l : List α} {i : Nat} : wS f (l.take i) ≤ wS f l := by
  induction l generalizing i with
  | nil => simp
  | cons y r ih =>
    cases i with
    | zero => simp
    | succ i => have := ih (i:=i);simp only [List.take_succ_cons,wS_cons];omega
theorem wS_len {α : Type} {f : α → Nat} (hf : ∀ x,1 ≤ f x) {l : List α} : l.length ≤ wS f l := by
  induction l with
  | nil => simp
  | cons y r ih => have := hf y;simp only [List.length_cons,wS_cons];omega
theorem l_mk_I (k : Int) (n : Nat) (hk : 0 ≤ k) (hb : k + n < 1000000000000000000) : ∀ x : Nat × (List Int),(x.1 ≤ n ∧ x.2.length = n ∧ x.2.take x.1 = (mkI k n).take x.1) → ∀ s,normE 2 (some [0,1,5]) s = ⟨[(0,.ref 0 0 n),(1,.int .i64 (k + x.1)),(5,.int .i64 x.1)],[(0,⟨false,true,1,ints x.2,0⟩)],2⟩ →
 oc.loop 82 2 s = some (.exit 0,⟨[(1,.int .i64 (k + n))],[(0,⟨false,true,1,ints (mkI k n),0⟩)],2⟩) := by
 refine loop_ind (σ:=Nat × (List Int)) (fun x => n - x.1) _ (fun x => ⟨[(0,.ref 0 0 n),(1,.int .i64 (k + x.1)),(5,.int .i64 x.1)],[(0,⟨false,true,1,ints x.2,0⟩)],2⟩) _ ?_
 rintro ⟨i,r⟩ hi ih s hs
 simp only at hi
 refine loop_s cd82 rfl rfl hs ?_
 obtain ⟨hi1,hi2,hi3⟩ := hi
 refine wa_ (wa_ (wc_region (w_ (m_ (h:=w_ (m_ (h:=w_ (le (h:=w_ (b_ (h:=wo_nil (e_ (h:=aft_normal (?_))))))))))))))
 refine c_ (h1:=?_) (h2:=?_)
 rotate_right 1
 focus
  intro c1
  simp at c1;obtain rfl : i = n := (by omega);obtain rfl : r = mkI k i := (by rw [List.take_of_length_le (by omega),List.take_of_length_le (by simp)] at hi3;exact hi3)
  refine wc_exit (?_)
 rotate_right 1
 focus
  intro c1
  simp at c1;have hw := wrap_succ (i:=i) (by omega);obtain ⟨y,hy⟩ : ∃ y,r[i]? = some y := (List.getElem?_eq_some_iff.2 ⟨by omega,rfl⟩ |> fun h => ⟨_,h⟩);have g2 : (ints r)[i]? = some (.int .i64 y) := (by simp [ints,hy]);have hw2 : IntKind.i64.wrap (k + (i : Int) + 1) = k + ((i + 1 : Nat) : Int) := (wrap_id (by omega) (by omega)).trans (by omega)
  refine wc_skip (?_)
 all_goals first
 | refine aft_exit ?_
 | (
  refine aft_normal ?_
  refine wa_ (wc_block (wa_ (wc_region (w_ (m_ (h:=w_ (m_ (h:=w_ (m_ (h:=w_ (x_ (h:=w0 (s_ (h:=wo_nil (e_ (h:=aft_normal (wc_region (?_))))))))))))))))))
  refine w_ (m_ (h:=w_ (b_ (h:=w_ (a_ (h:=wo_nil (e_ (h:=blk_normal (aft_normal (wc_region (w_ (m_ (h:=w_ (b_ (h:=w_ (a_ (h:=wo_nil (e_ (h:=?_)))))))))))))))))))
  )
 all_goals first
 | (refine (ih ((i + 1,r.set i (k + i))) (⟨by simp;omega,by simpa using hi2,set_take hi3 (by simpa using hi2) (mkI_at (by omega))⟩) ?_ _ ?_).trans ?_;(focus (first | omega | (simp;done) | (simp;omega)));(focus (simp [normE,hw,hw2];done));(focus (rfl)))
 | (apply end_leaf (ex:=(Ext.exit 0)) 2 (some [1]);(focus (simp [normE];rfl));(focus (simp)))
theorem mk_I (k : Int) (l : List Int) (hk : 0 ≤ k) (hb : k + (l.length : Nat) < 1000000000000000000) : oc.call 82 [.iol 1 (ints l),.int .i64 k] = some (.int .i64 (k + l.length),[.lst true 1 (ints (mkI k l.length))]) := by
 refine fun_s rfl cd82 rfl rfl rfl (by simp;rfl) (by simp;rfl) ?_
 refine wa_ (wc_region (w_ (a_ (h:=wo_nil (e_ (h:=aft_normal (wa_ (wa_ (wc_region (w_ (a_ (h:=wo_nil (e_ (h:=aft_normal (wc_block (?_))))))))))))))))
 refine wc_loop (l_mk_I k l.length hk hb (0,l) (by simp) _ (by simp [normE])) ?_
 refine blk_exit (aft_normal (wa_ (wc_region (w_ (m_ (h:=w_ (a_ (h:=wo_nil (e_ (h:=aft_normal (wc_ret (?_))))))))))))
 all_goals (refine fin_ (hr:=(res_tmp rfl res_nil)) (h:=?_);(focus (first | (simp_all;done) | (simp_all <;> omega) | (simp_all <;> split <;> simp_all <;> omega))))
theorem l_held_I (k : Int) (n : Nat) (hk : 0 ≤ k) (hb : k + n < 1000000000000000000) : ∀ i : Nat,(i ≤ n) → ∀ s,normE 2 (some [0,1,5]) s = ⟨[(0,.lst false 0 (ints (mkI k n))),(1,.int .i64 (k + i)),(5,.int .i64 i)],[],2⟩ →
 oc.loop 181 2 s = some (.exit 0,⟨[(1,.int .i64 (k + n))],[],2⟩) := by
 refine loop_ind (σ:=Nat) (fun i => n - i) _ (fun i => ⟨[(0,.lst false 0 (ints (mkI k n))),(1,.int .i64 (k + i)),(5,.int .i64 i)],[],2⟩) _ ?_
 intro i hi ih s hs
 refine loop_s cd181 rfl rfl hs ?_
 refine wa_ (wa_ (wc_region (w_ (m_ (h:=w_ (m_ (h:=w_ (le (h:=w_ (b_ (h:=wo_nil (e_ (h:=aft_normal (?_))))))))))))))
 refine c_ (h1:=?_) (h2:=?_)
 rotate_right 1
 focus
  intro c1
  first
  | exact dn c1
  | (
   have d1 := c1;try simp at d1
   refine wc_exit (?_)
   )
 rotate_right 1
 focus
  intro c1
  first
  | exact dn c1
  | (
   have d1 := c1;try simp at d1
   have hw := wrap_succ (i:=i) (by omega);have g2 : (ints (mkI k n))[i]? = some (.int .i64 (k + i)) := (by simp [ints,mkI_at (show i < n by simpa using d1)]);have hw2 : IntKind.i64.wrap (k + (i : Int) + 1) = k + ((i + 1 : Nat) : Int) := (wrap_id (by omega) (by omega)).trans (by omega)
   refine wc_skip (?_)
   )
 all_goals first
 | refine aft_exit ?_
 | (
  refine aft_normal ?_
  refine wa_ (wc_block (wa_ (wa_ (wc_region (w_ (m_ (h:=w_ (m_ (h:=w_ (x_ (h:=w_ (l_ (h:=w_ (m_ (h:=w_ (bE (h:=wo_nil (e_ (h:=?_)))))))))))))))))))
  refine aft_normal (?_)
  refine c_ (h1:=?_) (h2:=?_)
  rotate_right 1
  focus
   intro c2
   first
   | exact dn c2
   | (
    have d2 := c2;try simp at d2
    refine wc_skip (?_)
    )
  rotate_right 1
  focus
   intro c2
   first
   | exact dn c2
   | (
    have d2 := c2;try simp at d2
    refine wa_ (wc_region (w_ (a_ (h:=wo_nil (e_ (h:=aft_normal (wc_ret (?_))))))))
    )
  all_goals first
  | refine aft_ret ?_
  | (
   refine aft_normal ?_
   refine wc_region (w_ (m_ (h:=w_ (b_ (h:=w_ (a_ (h:=wo_nil (e_ (h:=?_)))))))))
   )
  all_goals first | refine blk_normal ?_ | refine blk_ret ?_
  all_goals first
  | refine aft_ret ?_
  | (
   refine aft_normal ?_
   refine wc_region (w_ (m_ (h:=w_ (b_ (h:=w_ (a_ (h:=wo_nil (e_ (h:=?_)))))))))
   )
  )
 all_goals first
 | (refine (ih (i + 1) (by omega) ?_ _ ?_).trans ?_;(focus (first | omega | (simp;done) | (simp;omega)));(focus (simp [normE,hw,hw2];done));(focus (rfl)))
 | (apply end_leaf (ex:=(Ext.exit 0)) 2 (some [1,4]);(focus (simp [normE];rfl));(focus (simp;omega)))
theorem held_I (k : Int) (n : Nat) (hk : 0 ≤ k) (hb : k + n < 1000000000000000000) : oc.call 181 [.lst false 0 (ints (mkI k n)),.int .i64 k] = some (.int .i64 (k + n),[]) := by
 refine fun_s rfl cd181 rfl rfl rfl (by simp;rfl) (by simp;rfl) ?_
 refine wa_ (wc_region (w_ (a_ (h:=wo_nil (e_ (h:=aft_normal (wa_ (wa_ (wc_region (w_ (a_ (h:=wo_nil (e_ (h:=aft_normal (wc_block (?_))))))))))))))))
 refine wc_loop (l_held_I k n hk hb 0 (by omega) _ (by simp [normE])) ?_
 first | refine blk_ret ?_ | refine blk_exit ?_
 all_goals first
 | refine aft_ret ?_
 | (
  refine aft_normal ?_
  refine wa_ (wc_region (w_ (m_ (h:=w_ (a_ (h:=wo_nil (e_ (h:=aft_normal (wc_ret (?_))))))))))
  )
 all_goals (refine fin_ (hr:=(res_tmp rfl res_nil)) (h:=?_);(focus (first | (simp_all;done) | (simp_all <;> omega) | (simp_all <;> split <;> simp_all <;> omega))))
def cn_Ct (x : Ct) : Nat := 1 + 1 + 1
def cn_Cts (l : List Ct) : Nat := wS cn_Ct l
def mk_Ct (k : Int) (x : Ct) : Ct := ⟨k,k + 1,k + 1 + 1⟩
@[simp] theorem mk_Ct_pl (k : Int) (x : Ct) : (mk_Ct k x).pl = k := rfl
@[simp] theorem mk_Ct_ep (k : Int) (x : Ct) : (mk_Ct k x).ep = k + 1 := rfl
@[simp] theorem mk_Ct_n (k : Int) (x : Ct) : (mk_Ct k x).n = k + 1 + 1 := rfl
def mk_Cts (k : Int) : List Ct → List Ct
  | [] => []
  | x :: r => mk_Ct k x :: mk_Cts (k + (cn_Ct x : Nat)) r
@[simp] theorem mk_Cts_len {k : Int} {l : List Ct} : (mk_Cts k l).length = l.length := by
  induction l generalizing k with
  | nil => rfl
  | cons x r ih => simp [mk_Cts,ih]
@[simp] theorem mk_Cts_take {k : Int} {l : List Ct} : (mk_Cts k l).take l.length = mk_Cts k l := List.take_of_length_le (by simp)
@[simp] theorem alike_cts (a b : List Ct) : V.alikeL (cts a) (cts b) = decide (a.length = b.length) := alikeL_map (fun _ _ => rfl)
def cn_Nd (x : Nd) : Nat := 1 + 1 + 1 + 1 + 1 + 1 + x.cells.length
def mk_Nd (k : Int) (x : Nd) : Nd := ⟨k,k + 1,k + 1 + 1,k + 1 + 1 + 1,k + 1 + 1 + 1 + 1,k + 1 + 1 + 1 + 1 + 1,mkI (k + 1 + 1 + 1 + 1 + 1 + 1) x.cells.length⟩
@[simp] theorem mk_Nd_op (k : Int) (x : Nd) : (mk_Nd k x).op = k := rfl
@[simp] theorem mk_Nd_a (k : Int) (x : Nd) : (mk_Nd k x).a = k + 1 := rfl
@[simp] theorem mk_Nd_b (k : Int) (x : Nd) : (mk_Nd k x).b = k + 1 + 1 := rfl
@[simp] theorem mk_Nd_col (k : Int) (x : Nd) : (mk_Nd k x).col = k + 1 + 1 + 1 := rfl
@[simp] theorem mk_Nd_test (k : Int) (x : Nd) : (mk_Nd k x).test = k + 1 + 1 + 1 + 1 := rfl
@[simp] theorem mk_Nd_value (k : Int) (x : Nd) : (mk_Nd k x).value = k + 1 + 1 + 1 + 1 + 1 := rfl
@[simp] theorem mk_Nd_cells (k : Int) (x : Nd) : (mk_Nd k x).cells = mkI (k + 1 + 1 + 1 + 1 + 1 + 1) x.cells.length := rfl
def mk_Nds (k : Int) : List Nd → List Nd
  | [] => []
  | x :: r => mk_Nd k x :: mk_Nds (k + (cn_Nd x : Nat)) r
@[simp] theorem mk_Nds_len {k : Int} {l : List Nd} : (mk_Nds k l).length = l.length := by
  induction l generalizing k with
  | nil => rfl
  | cons x r ih => simp [mk_Nds,ih]
@[simp] theorem mk_Nds_take {k : Int} {l : List Nd} : (mk_Nds k l).take l.length = mk_Nds k l := List.take_of_length_le (by simp)
@[simp] theorem alike_nds (t u : Bool) (s z : Nat) (a b : List Nd) : V.alikeL (nds t s a) (nds u z b) = decide (a.length = b.length) := alikeL_map (fun _ _ => rfl)
def cn_Et (x : Et) : Nat := x.row.length + 1
theorem cn_Et_pos (x : Et) : 1 ≤ cn_Et x := by unfold cn_Et;omega
def cn_Ets (l : List Et) : Nat := wS cn_Et l
theorem cn_Ets_len {l : List Et} : l.length ≤ cn_Ets l := wS_len cn_Et_pos
def mk_Et (k : Int) (x : Et) : Et := ⟨mkI (k) x.row.length,k + (x.row.length : Nat)⟩
@[simp] theorem mk_Et_row (k : Int) (x : Et) : (mk_Et k x).row = mkI (k) x.row.length := rfl
@[simp] theorem mk_Et_w (k : Int) (x : Et) : (mk_Et k x).w = k + (x.row.length : Nat) := rfl
def mk_Ets (k : Int) : List Et → List Et
  | [] => []
  | x :: r => mk_Et k x :: mk_Ets (k + (cn_Et x : Nat)) r
@[simp] theorem mk_Ets_len {k : Int} {l : List Et} : (mk_Ets k l).length = l.length := by
  induction l generalizing k with
  | nil => rfl
  | cons x r ih => simp [mk_Ets,ih]
@[simp] theorem mk_Ets_take {k : Int} {l : List Et} : (mk_Ets k l).take l.length = mk_Ets k l := List.take_of_length_le (by simp)
theorem mk_Ets_at {k : Int} {l : List Et} {i : Nat} {x : Et} (h : l[i]? = some x) : (mk_Ets k l)[i]? = some (mk_Et (k + (cn_Ets (l.take i) : Nat)) x) := by
  induction l generalizing k i with
  | nil => simp at h
  | cons y r ih =>
    cases i with
    | zero => simp at h;subst h;simp [mk_Ets,cn_Ets]
    | succ i => simp at h;simp only [mk_Ets,List.getElem?_cons_succ,ih h,List.take_succ_cons,cn_Ets,wS_cons];congr 2;push_cast;omega
@[simp] theorem alike_ets (t u : Bool) (a b : List Et) : V.alikeL (ets t a) (ets u b) = decide (a.length = b.length) := alikeL_map (fun _ _ => rfl)
theorem l_mk_Ets (k : Int) (l : List Et) (hk : 0 ≤ k) (hb : k + (cn_Ets l : Nat) < 1000000000000000000) : ∀ x : Nat × (List Et),(x.1 ≤ l.length ∧ x.2.length = l.length ∧ x.2.take x.1 = (mk_Ets k l).take x.1 ∧ x.2.drop x.1 = l.drop x.1) → ∀ s,normE 2 (some [0,1,5]) s = ⟨[(0,.ref 0 0 l.length),(1,.int .i64 (k + (cn_Ets (l.take x.1) : Nat))),(5,.int .i64 x.1)],[(0,⟨false,true,2,ets true x.2,0⟩)],2⟩ →
 oc.loop 18 2 s = some (.exit 0,⟨[(1,.int .i64 (k + (cn_Ets l : Nat)))],[(0,⟨false,true,2,ets true (mk_Ets k l),0⟩)],2⟩) := by
 refine loop_ind (σ:=Nat × (List Et)) (fun x => l.length - x.1) _ (fun x => ⟨[(0,.ref 0 0 l.length),(1,.int .i64 (k + (cn_Ets (l.take x.1) : Nat))),(5,.int .i64 x.1)],[(0,⟨false,true,2,ets true x.2,0⟩)],2⟩) _ ?_
 rintro ⟨i,r⟩ hi ih s hs
 simp only at hi
 refine loop_s cd18 rfl rfl hs ?_
 obtain ⟨hi1,hi2,hi3,hi4⟩ := hi
 have hlen := cn_Ets_len (l:=l)
 refine wa_ (wa_ (wc_region (w_ (m_ (h:=w_ (m_ (h:=w_ (le (h:=w_ (b_ (h:=wo_nil (e_ (h:=aft_normal (?_))))))))))))))
 refine c_ (h1:=?_) (h2:=?_)
 rotate_right 1
 focus
  intro c1
  simp at c1;obtain rfl : i = l.length := (by omega);obtain rfl : r = mk_Ets k l := (by rw [List.take_of_length_le (by omega),List.take_of_length_le (by simp)] at hi3;exact hi3)
  refine wc_exit (?_)
 rotate_right 1
 focus
  intro c1
  simp at c1;have hw := wrap_succ (i:=i) (by omega);obtain ⟨y,hx,_,_⟩ := ets_cut (t:=false) (l:=l) (i:=i) c1;have hy : r[i]? = some y := (by have := congrArg (fun q => q[0]?) hi4;simpa [hx] using this);have g2 : (ets true r)[i]? = some (Et.v true (y)) := (by simp [ets,hy]);have hcut := wS_cut (f:=cn_Et) hx;have hle := wS_take (f:=cn_Et) (l:=l) (i:=i + 1);have hcy : cn_Et y = y.row.length + 1 := rfl;change cn_Ets (l.take (i + 1)) = cn_Ets (l.take i) + cn_Et y at hcut;change cn_Ets (l.take (i + 1)) ≤ cn_Ets l at hle;have hw1 : IntKind.i64.wrap (k + (cn_Ets (l.take i) : Nat) + (y.row.length : Nat) + 1) = k + ((cn_Ets (l.take (i + 1)) : Nat) : Int) := (by rw [hcut];exact (wrap_id (by omega) (by omega)).trans (by omega))
  refine wc_skip (?_)
 all_goals first
 | refine aft_exit ?_
 | (
  refine aft_normal ?_
  refine wa_ (wc_block (wa_ (wc_region (w_ (m_ (h:=w_ (m_ (h:=w_ (x_ (h:=w_ (f_ (h:=w_ (l_ (h:=w_ (m_ (h:=?_))))))))))))))))
  first | refine ip (hc:=(by (try simp only [hw1]);exact mk_I (k + (cn_Ets (l.take i) : Nat)) y.row (by omega) (by omega))) (h:=?_) | refine iq (hc:=(by (try simp only [hw1]);exact mk_I (k + (cn_Ets (l.take i) : Nat)) y.row (by omega) (by omega))) (h:=?_)
  refine w_ (a_ (h:=wo_nil (e_ (h:=aft_normal (wa_ (wc_region (w_ (m_ (h:=w_ (m_ (h:=w_ (m_ (h:=w_ (x_ (h:=w_ (f_ (h:=w0 (s_ (h:=wo_nil (e_ (h:=?_)))))))))))))))))))))
  refine aft_normal (wc_region (w_ (m_ (h:=w_ (b_ (h:=w_ (a_ (h:=wo_nil (e_ (h:=blk_normal (aft_normal (wc_region (w_ (m_ (h:=w_ (b_ (h:=w_ (a_ (h:=?_)))))))))))))))))))
  refine wo_nil (e_ (h:=?_))
  )
 all_goals first
 | (refine (ih ((i + 1,r.set i (mk_Et (k + (cn_Ets (l.take i) : Nat)) y))) (⟨by simp;omega,by simpa using hi2,set_take hi3 (by simpa using hi2) (mk_Ets_at hx),set_drop hi4⟩) ?_ _ ?_).trans ?_;(focus (first | omega | (simp;done) | (simp;omega)));(focus (simp [normE,hw,hw1,mk_Et];done));(focus (rfl)))
 | (apply end_leaf (ex:=(Ext.exit 0)) 2 (some [1]);(focus (simp [normE];rfl));(focus (simp)))
theorem mkf_Ets (k : Int) (l : List Et) (hk : 0 ≤ k) (hb : k + (cn_Ets l : Nat) < 1000000000000000000) : oc.call 18 [.iol 2 (ets true l),.int .i64 k] = some (.int .i64 (k + (cn_Ets l : Nat)),[.lst true 2 (ets true (mk_Ets k l))]) := by
 refine fun_s rfl cd18 rfl rfl rfl (by simp;rfl) (by simp;rfl) ?_
 refine wa_ (wc_region (w_ (a_ (h:=wo_nil (e_ (h:=aft_normal (wa_ (wa_ (wc_region (w_ (a_ (h:=wo_nil (e_ (h:=aft_normal (wc_block (?_))))))))))))))))
 refine wc_loop (l_mk_Ets k l hk hb (0,l) (by simp) _ (by simp [normE,cn_Ets])) ?_
 refine blk_exit (aft_normal (wa_ (wc_region (w_ (m_ (h:=w_ (a_ (h:=wo_nil (e_ (h:=aft_normal (wc_ret (?_))))))))))))
 all_goals (refine fin_ (hr:=(res_tmp rfl res_nil)) (h:=?_);(focus (first | (simp_all;done) | (simp_all <;> omega) | (simp_all <;> split <;> simp_all <;> omega))))
theorem l_held_Ets (k : Int) (l : List Et) (hk : 0 ≤ k) (hb : k + (cn_Ets l : Nat) < 1000000000000000000) : ∀ i : Nat,(i ≤ l.length) → ∀ s,normE 2 (some [0,1,5]) s = ⟨[(0,.lst false 0 (ets false (mk_Ets k l))),(1,.int .i64 (k + (cn_Ets (l.take i) : Nat))),(5,.int .i64 i)],[],2⟩ →
 oc.loop 95 2 s = some (.exit 0,⟨[(1,.int .i64 (k + (cn_Ets l : Nat)))],[],2⟩) := by
 refine loop_ind (σ:=Nat) (fun i => l.length - i) _ (fun i => ⟨[(0,.lst false 0 (ets false (mk_Ets k l))),(1,.int .i64 (k + (cn_Ets (l.take i) : Nat))),(5,.int .i64 i)],[],2⟩) _ ?_
 intro i hi ih s hs
 refine loop_s cd95 rfl rfl hs ?_
 have hlen := cn_Ets_len (l:=l)
 refine wa_ (wa_ (wc_region (w_ (m_ (h:=w_ (m_ (h:=w_ (le (h:=w_ (b_ (h:=wo_nil (e_ (h:=aft_normal (?_))))))))))))))
 refine c_ (h1:=?_) (h2:=?_)
 rotate_right 1
 focus
  intro c1
  first
  | exact dn c1
  | (
   have d1 := c1;try simp at d1
   obtain rfl : i = l.length := (by omega)
   refine wc_exit (?_)
   )
 rotate_right 1
 focus
  intro c1
  first
  | exact dn c1
  | (
   have d1 := c1;try simp at d1
   have hc1 : i < l.length := (by simpa using d1);have hw := wrap_succ (i:=i) (by omega);obtain ⟨y,hx,_,_⟩ := ets_cut (t:=false) (l:=l) (i:=i) hc1;have g2 : (ets false (mk_Ets k l))[i]? = some (Et.v false (mk_Et (k + (cn_Ets (l.take i) : Nat)) y)) := (by simp [ets,mk_Ets_at hx]);have hcut := wS_cut (f:=cn_Et) hx;have hle := wS_take (f:=cn_Et) (l:=l) (i:=i + 1);have hcy : cn_Et y = y.row.length + 1 := rfl;change cn_Ets (l.take (i + 1)) = cn_Ets (l.take i) + cn_Et y at hcut;change cn_Ets (l.take (i + 1)) ≤ cn_Ets l at hle;have hw1 : IntKind.i64.wrap (k + (cn_Ets (l.take i) : Nat) + (y.row.length : Nat) + 1) = k + ((cn_Ets (l.take (i + 1)) : Nat) : Int) := (by rw [hcut];exact (wrap_id (by omega) (by omega)).trans (by omega))
   refine wc_skip (?_)
   )
 all_goals first
 | refine aft_exit ?_
 | (
  refine aft_normal ?_
  refine wa_ (wc_block (wa_ (wc_region (w_ (m_ (h:=w_ (m_ (h:=w_ (x_ (h:=w_ (f_ (h:=w_ (l_ (h:=w_ (m_ (h:=w_ (ca (hc:=(by (try simp only [hw1]);exact held_I (k + (cn_Ets (l.take i) : Nat)) y.row.length (by omega) (by omega))) (h:=w_ (a_ (h:=?_))))))))))))))))))))
  refine wo_nil (e_ (h:=aft_normal (wa_ (wa_ (wc_region (w_ (m_ (h:=w_ (b_ (h:=wo_nil (e_ (h:=aft_normal (?_)))))))))))))
  refine c_ (h1:=?_) (h2:=?_)
  rotate_right 1
  focus
   intro c2
   first
   | exact dn c2
   | (
    have d2 := c2;try simp at d2
    refine wc_skip (?_)
    )
  rotate_right 1
  focus
   intro c2
   first
   | exact dn c2
   | (
    have d2 := c2;try simp at d2
    refine wa_ (wc_region (w_ (a_ (h:=wo_nil (e_ (h:=aft_normal (wc_ret (?_))))))))
    )
  all_goals first
  | refine aft_ret ?_
  | (
   refine aft_normal ?_
   refine wa_ (wa_ (wc_region (w_ (m_ (h:=w_ (m_ (h:=w_ (x_ (h:=w_ (f_ (h:=w_ (l_ (h:=w_ (m_ (h:=w_ (bE (h:=wo_nil (e_ (h:=aft_normal (?_))))))))))))))))))))
   refine c_ (h1:=?_) (h2:=?_)
   rotate_right 1
   focus
    intro c3
    first
    | exact dn c3
    | (
     have d3 := c3;try simp at d3
     refine wc_skip (?_)
     )
   rotate_right 1
   focus
    intro c3
    first
    | exact dn c3
    | (
     have d3 := c3;try simp at d3
     refine wa_ (wc_region (w_ (a_ (h:=wo_nil (e_ (h:=aft_normal (wc_ret (?_))))))))
     )
   all_goals first
   | refine aft_ret ?_
   | (
    refine aft_normal ?_
    refine wc_region (w_ (m_ (h:=w_ (b_ (h:=w_ (a_ (h:=wo_nil (e_ (h:=?_)))))))))
    )
   )
  all_goals first | refine blk_normal ?_ | refine blk_ret ?_
  all_goals first
  | refine aft_ret ?_
  | (
   refine aft_normal ?_
   refine wc_region (w_ (m_ (h:=w_ (b_ (h:=w_ (a_ (h:=wo_nil (e_ (h:=?_)))))))))
   )
  )
 all_goals first
 | (refine (ih (i + 1) (by omega) ?_ _ ?_).trans ?_;(focus (first | omega | (simp;done) | (simp;omega)));(focus (simp [normE,hw,hw1];done));(focus (rfl)))
 | (apply end_leaf (ex:=(Ext.exit 0)) 2 (some [1,4]);(focus (simp [normE];rfl));(focus (simp)))
 | (apply end_leaf (ex:=Ext.ret) 2 (some [1,4]);(focus (simp [normE];rfl));(focus (exfalso;omega)))
theorem held_Ets (k : Int) (l : List Et) (hk : 0 ≤ k) (hb : k + (cn_Ets l : Nat) < 1000000000000000000) : oc.call 95 [.lst false 0 (ets false (mk_Ets k l)),.int .i64 k] = some (.int .i64 (k + (cn_Ets l : Nat)),[]) := by
 refine fun_s rfl cd95 rfl rfl rfl (by simp;rfl) (by simp;rfl) ?_
 refine wa_ (wc_region (w_ (a_ (h:=wo_nil (e_ (h:=aft_normal (wa_ (wa_ (wc_region (w_ (a_ (h:=wo_nil (e_ (h:=aft_normal (wc_block (?_))))))))))))))))
 refine wc_loop (l_held_Ets k l hk hb 0 (by omega) _ (by simp [normE,cn_Ets])) ?_
 first | refine blk_ret ?_ | refine blk_exit ?_
 all_goals first
 | refine aft_ret ?_
 | (
  refine aft_normal ?_
  refine wa_ (wc_region (w_ (m_ (h:=w_ (a_ (h:=wo_nil (e_ (h:=aft_normal (wc_ret (?_))))))))))
  )
 all_goals (refine fin_ (hr:=(res_tmp rfl res_nil)) (h:=?_);(focus (first | (simp_all;done) | (simp_all <;> omega) | (simp_all <;> split <;> simp_all <;> omega))))
def cn_Fr (x : Fr) : Nat := 1 + 1 + 1 + 1 + cn_Ets x.set + cn_Cts x.news
def cn_Frs (l : List Fr) : Nat := wS cn_Fr l
def mk_Fr (k : Int) (x : Fr) : Fr := ⟨k,k + 1,k + 1 + 1,k + 1 + 1 + 1,mk_Ets (k + 1 + 1 + 1 + 1) x.set,mk_Cts (k + 1 + 1 + 1 + 1 + (cn_Ets x.set : Nat)) x.news⟩
@[simp] theorem mk_Fr_kind (k : Int) (x : Fr) : (mk_Fr k x).kind = k := rfl
@[simp] theorem mk_Fr_node (k : Int) (x : Fr) : (mk_Fr k x).node = k + 1 := rfl
@[simp] theorem mk_Fr_side (k : Int) (x : Fr) : (mk_Fr k x).side = k + 1 + 1 := rfl
@[simp] theorem mk_Fr_ep (k : Int) (x : Fr) : (mk_Fr k x).ep = k + 1 + 1 + 1 := rfl
@[simp] theorem mk_Fr_set (k : Int) (x : Fr) : (mk_Fr k x).set = mk_Ets (k + 1 + 1 + 1 + 1) x.set := rfl
@[simp] theorem mk_Fr_news (k : Int) (x : Fr) : (mk_Fr k x).news = mk_Cts (k + 1 + 1 + 1 + 1 + (cn_Ets x.set : Nat)) x.news := rfl
def mk_Frs (k : Int) : List Fr → List Fr
  | [] => []
  | x :: r => mk_Fr k x :: mk_Frs (k + (cn_Fr x : Nat)) r
@[simp] theorem mk_Frs_len {k : Int} {l : List Fr} : (mk_Frs k l).length = l.length := by
  induction l generalizing k with
  | nil => rfl
  | cons x r ih => simp [mk_Frs,ih]
@[simp] theorem mk_Frs_take {k : Int} {l : List Fr} : (mk_Frs k l).take l.length = mk_Frs k l := List.take_of_length_le (by simp)
@[simp] theorem alike_frs (t u : Bool) (a b : List Fr) : V.alikeL (frs t a) (frs u b) = decide (a.length = b.length) := alikeL_map (fun _ _ => rfl)
def cn_Bt (x : Bt) : Nat := 1 + 1 + cn_Ets x.set
def cn_Bts (l : List Bt) : Nat := wS cn_Bt l
def mk_Bt (k : Int) (x : Bt) : Bt := ⟨k,k + 1,mk_Ets (k + 1 + 1) x.set⟩
@[simp] theorem mk_Bt_side (k : Int) (x : Bt) : (mk_Bt k x).side = k := rfl
@[simp] theorem mk_Bt_ep (k : Int) (x : Bt) : (mk_Bt k x).ep = k + 1 := rfl
@[simp] theorem mk_Bt_set (k : Int) (x : Bt) : (mk_Bt k x).set = mk_Ets (k + 1 + 1) x.set := rfl
def mk_Bts (k : Int) : List Bt → List Bt
  | [] => []
  | x :: r => mk_Bt k x :: mk_Bts (k + (cn_Bt x : Nat)) r
@[simp] theorem mk_Bts_len {k : Int} {l : List Bt} : (mk_Bts k l).length = l.length := by
  induction l generalizing k with
  | nil => rfl
  | cons x r ih => simp [mk_Bts,ih]
@[simp] theorem mk_Bts_take {k : Int} {l : List Bt} : (mk_Bts k l).take l.length = mk_Bts k l := List.take_of_length_le (by simp)
@[simp] theorem alike_bts (t u : Bool) (a b : List Bt) : V.alikeL (bts t a) (bts u b) = decide (a.length = b.length) := alikeL_map (fun _ _ => rfl)
def cn_Hd (x : Hd) : Nat := cn_Ets x.oldA + cn_Ets x.oldB + cn_Bts x.waits + 1
def cn_Hds (l : List Hd) : Nat := wS cn_Hd l
def mk_Hd (k : Int) (x : Hd) : Hd := ⟨mk_Ets (k) x.oldA,mk_Ets (k + (cn_Ets x.oldA : Nat)) x.oldB,mk_Bts (k + (cn_Ets x.oldA : Nat) + (cn_Ets x.oldB : Nat)) x.waits,k + (cn_Ets x.oldA : Nat) + (cn_Ets x.oldB : Nat) + (cn_Bts x.waits : Nat)⟩
@[simp] theorem mk_Hd_oldA (k : Int) (x : Hd) : (mk_Hd k x).oldA = mk_Ets (k) x.oldA := rfl
@[simp] theorem mk_Hd_oldB (k : Int) (x : Hd) : (mk_Hd k x).oldB = mk_Ets (k + (cn_Ets x.oldA : Nat)) x.oldB := rfl
@[simp] theorem mk_Hd_waits (k : Int) (x : Hd) : (mk_Hd k x).waits = mk_Bts (k + (cn_Ets x.oldA : Nat) + (cn_Ets x.oldB : Nat)) x.waits := rfl
@[simp] theorem mk_Hd_told (k : Int) (x : Hd) : (mk_Hd k x).told = k + (cn_Ets x.oldA : Nat) + (cn_Ets x.oldB : Nat) + (cn_Bts x.waits : Nat) := rfl
def mk_Hds (k : Int) : List Hd → List Hd
  | [] => []
  | x :: r => mk_Hd k x :: mk_Hds (k + (cn_Hd x : Nat)) r
@[simp] theorem mk_Hds_len {k : Int} {l : List Hd} : (mk_Hds k l).length = l.length := by
  induction l generalizing k with
  | nil => rfl
  | cons x r ih => simp [mk_Hds,ih]
@[simp] theorem mk_Hds_take {k : Int} {l : List Hd} : (mk_Hds k l).take l.length = mk_Hds k l := List.take_of_length_le (by simp)
@[simp] theorem alike_hds (t u : Bool) (a b : List Hd) : V.alikeL (hds t a) (hds u b) = decide (a.length = b.length) := alikeL_map (fun _ _ => rfl)
def cn_Rl (x : Rl) : Nat := 1 + 1 + cn_Ets x.set
def cn_Rls (l : List Rl) : Nat := wS cn_Rl l
def mk_Rl (k : Int) (x : Rl) : Rl := ⟨k,k + 1,mk_Ets (k + 1 + 1) x.set⟩
@[simp] theorem mk_Rl_node (k : Int) (x : Rl) : (mk_Rl k x).node = k := rfl
@[simp] theorem mk_Rl_ep (k : Int) (x : Rl) : (mk_Rl k x).ep = k + 1 := rfl
@[simp] theorem mk_Rl_set (k : Int) (x : Rl) : (mk_Rl k x).set = mk_Ets (k + 1 + 1) x.set := rfl
def mk_Rls (k : Int) : List Rl → List Rl
  | [] => []
  | x :: r => mk_Rl k x :: mk_Rls (k + (cn_Rl x : Nat)) r
@[simp] theorem mk_Rls_len {k : Int} {l : List Rl} : (mk_Rls k l).length = l.length := by
  induction l generalizing k with
  | nil => rfl
  | cons x r ih => simp [mk_Rls,ih]
@[simp] theorem mk_Rls_take {k : Int} {l : List Rl} : (mk_Rls k l).take l.length = mk_Rls k l := List.take_of_length_le (by simp)
@[simp] theorem alike_rls (t u : Bool) (a b : List Rl) : V.alikeL (rls t a) (rls u b) = decide (a.length = b.length) := alikeL_map (fun _ _ => rfl)
def cn_Wk (x : Wk) : Nat := cn_Frs x.inbox + cn_Cts x.counts + cn_Hds x.nodes + 1 + 1 + cn_Rls x.outs + 1
def mk_Wk (k : Int) (x : Wk) : Wk := ⟨mk_Frs (k) x.inbox,mk_Cts (k + (cn_Frs x.inbox : Nat)) x.counts,mk_Hds (k + (cn_Frs x.inbox : Nat) + (cn_Cts x.counts : Nat)) x.nodes,k + (cn_Frs x.inbox : Nat) + (cn_Cts x.counts : Nat) + (cn_Hds x.nodes : Nat),k + (cn_Frs x.inbox : Nat) + (cn_Cts x.counts : Nat) + (cn_Hds x.nodes : Nat) + 1,mk_Rls (k + (cn_Frs x.inbox : Nat) + (cn_Cts x.counts : Nat) + (cn_Hds x.nodes : Nat) + 1 + 1) x.outs,decide ((k + (cn_Frs x.inbox : Nat) + (cn_Cts x.counts : Nat) + (cn_Hds x.nodes : Nat) + 1 + 1 + (cn_Rls x.outs : Nat)).tmod 3 = 0)⟩
@[simp] theorem mk_Wk_inbox (k : Int) (x : Wk) : (mk_Wk k x).inbox = mk_Frs (k) x.inbox := rfl
@[simp] theorem mk_Wk_counts (k : Int) (x : Wk) : (mk_Wk k x).counts = mk_Cts (k + (cn_Frs x.inbox : Nat)) x.counts := rfl
@[simp] theorem mk_Wk_nodes (k : Int) (x : Wk) : (mk_Wk k x).nodes = mk_Hds (k + (cn_Frs x.inbox : Nat) + (cn_Cts x.counts : Nat)) x.nodes := rfl
@[simp] theorem mk_Wk_ep (k : Int) (x : Wk) : (mk_Wk k x).ep = k + (cn_Frs x.inbox : Nat) + (cn_Cts x.counts : Nat) + (cn_Hds x.nodes : Nat) := rfl
@[simp] theorem mk_Wk_top (k : Int) (x : Wk) : (mk_Wk k x).top = k + (cn_Frs x.inbox : Nat) + (cn_Cts x.counts : Nat) + (cn_Hds x.nodes : Nat) + 1 := rfl
@[simp] theorem mk_Wk_outs (k : Int) (x : Wk) : (mk_Wk k x).outs = mk_Rls (k + (cn_Frs x.inbox : Nat) + (cn_Cts x.counts : Nat) + (cn_Hds x.nodes : Nat) + 1 + 1) x.outs := rfl
@[simp] theorem mk_Wk_bad (k : Int) (x : Wk) : (mk_Wk k x).bad = decide ((k + (cn_Frs x.inbox : Nat) + (cn_Cts x.counts : Nat) + (cn_Hds x.nodes : Nat) + 1 + 1 + (cn_Rls x.outs : Nat)).tmod 3 = 0) := rfl
def mk_Wks (k : Int) : List Wk → List Wk
  | [] => []
  | x :: r => mk_Wk k x :: mk_Wks (k + (cn_Wk x : Nat)) r
@[simp] theorem mk_Wks_len {k : Int} {l : List Wk} : (mk_Wks k l).length = l.length := by
  induction l generalizing k with
  | nil => rfl
  | cons x r ih => simp [mk_Wks,ih]
@[simp] theorem mk_Wks_take {k : Int} {l : List Wk} : (mk_Wks k l).take l.length = mk_Wks k l := List.take_of_length_le (by simp)
@[simp] theorem alike_wks (t u : Bool) (a b : List Wk) : V.alikeL (wks t a) (wks u b) = decide (a.length = b.length) := alikeL_map (fun _ _ => rfl)
end Go.Proofs.Ytgkbmiaimjpbfaa.Ev
namespace Go.Proofs.Ytgkbmiaimjpbfaa.Ev
open Go
set_option maxRecDepth 100000
set_option linter.unusedSimpArgs false
set_option linter.unusedVariables false
set_option maxHeartbeats 2000000
def cn_Etss (l : List (List Et)) : Nat := wS cn_Ets l
def mk_Etss (k : Int) : List (List Et) → List (List Et)
  | [] => []
  | x :: r => mk_Ets k x :: mk_Etss (k + (cn_Ets x : Nat)) r
@[simp] theorem mk_Etss_len {k : Int} {l : List (List Et)} : (mk_Etss k l).length = l.length := by
  induction l generalizing k with
  | nil => rfl
  | cons x r ih => simp [mk_Etss,ih]
@[simp] theorem mk_Etss_take {k : Int} {l : List (List Et)} : (mk_Etss k l).take l.length = mk_Etss k l := List.take_of_length_le (by simp)
theorem mk_Etss_at {k : Int} {l : List (List Et)} {i : Nat} {x : List Et} (h : l[i]? = some x) : (mk_Etss k l)[i]? = some (mk_Ets (k + (cn_Etss (l.take i) : Nat)) x) := by
  induction l generalizing k i with
  | nil => simp at h
  | cons y r ih =>
    cases i with
    | zero => simp at h;subst h;simp [mk_Etss,cn_Etss]
    | succ i => simp at h;simp only [mk_Etss,List.getElem?_cons_succ,ih h,List.take_succ_cons,cn_Etss,wS_cons];congr 2;push_cast;omega
theorem l_mk_Etss (k : Int) (l : List (List Et)) (hk : 0 ≤ k) (hl : l.length < 2000000) (hb : k + (cn_Etss l : Nat) < 1000000000000000000) : ∀ x : Nat × (List (List Et)),(x.1 ≤ l.length ∧ x.2.length = l.length ∧ x.2.take x.1 = (mk_Etss k l).take x.1 ∧ x.2.drop x.1 = l.drop x.1) → ∀ s,normE 2 (some [0,1,5]) s = ⟨[(0,.ref 0 0 l.length),(1,.int .i64 (k + (cn_Etss (l.take x.1) : Nat))),(5,.int .i64 x.1)],[(0,⟨false,true,1,etss true x.2,0⟩)],2⟩ →
 oc.loop 32 2 s = some (.exit 0,⟨[(1,.int .i64 (k + (cn_Etss l : Nat)))],[(0,⟨false,true,1,etss true (mk_Etss k l),0⟩)],2⟩) := by
 refine loop_ind (σ:=Nat × (List (List Et))) (fun x => l.length - x.1) _ (fun x => ⟨[(0,.ref 0 0 l.length),(1,.int .i64 (k + (cn_Etss (l.take x.1) : Nat))),(5,.int .i64 x.1)],[(0,⟨false,true,1,etss true x.2,0⟩)],2⟩) _ ?_
 rintro ⟨i,r⟩ hi ih s hs
 simp only at hi
 refine loop_s cd32 rfl rfl hs ?_
 obtain ⟨hi1,hi2,hi3,hi4⟩ := hi
 refine wa_ (wa_ (wc_region (w_ (m_ (h:=w_ (m_ (h:=w_ (le (h:=w_ (b_ (h:=wo_nil (e_ (h:=aft_normal (?_))))))))))))))
 refine c_ (h1:=?_) (h2:=?_)
 rotate_right 1
 focus
  intro c1
  simp at c1;obtain rfl : i = l.length := (by omega);obtain rfl : r = mk_Etss k l := (by rw [List.take_of_length_le (by omega),List.take_of_length_le (by simp)] at hi3;exact hi3)
  refine wc_exit (?_)
 rotate_right 1
 focus
  intro c1
  simp at c1;have hw := wrap_succ (i:=i) (by omega);obtain ⟨y,hx,_,_⟩ := etss_cut (t:=false) (l:=l) (i:=i) c1;have hy : r[i]? = some y := (by have := congrArg (fun q => q[0]?) hi4;simpa [hx] using this);have g2 : (etss true r)[i]? = some (.lst true 2 (ets true y)) := (by simp [etss,hy]);have hcut := wS_cut (f:=cn_Ets) hx;have hle := wS_take (f:=cn_Ets) (l:=l) (i:=i + 1);change cn_Etss (l.take (i + 1)) = cn_Etss (l.take i) + cn_Ets y at hcut;change cn_Etss (l.take (i + 1)) ≤ cn_Etss l at hle;have hw1 : k + (cn_Etss (l.take i) : Nat) + (cn_Ets y : Nat) = k + ((cn_Etss (l.take (i + 1)) : Nat) : Int) := (by rw [hcut];omega)
  refine wc_skip (?_)
 all_goals first
 | refine aft_exit ?_
 | (
  refine aft_normal ?_
  refine wa_ (wc_block (wc_region (w_ (m_ (h:=w_ (m_ (h:=w_ (x_ (h:=w_ (l_ (h:=w_ (m_ (h:=?_)))))))))))))
  first | refine ip (hc:=mkf_Ets (k + (cn_Etss (l.take i) : Nat)) y (by omega) (by omega)) (h:=?_) | refine iq (hc:=mkf_Ets (k + (cn_Etss (l.take i) : Nat)) y (by omega) (by omega)) (h:=?_)
  refine w_ (a_ (h:=wo_nil (e_ (h:=blk_normal (aft_normal (wc_region (w_ (m_ (h:=w_ (b_ (h:=w_ (a_ (h:=wo_nil (e_ (h:=?_)))))))))))))))
  )
 all_goals first
 | (refine (ih ((i + 1,r.set i (mk_Ets (k + (cn_Etss (l.take i) : Nat)) y))) (⟨by simp;omega,by simpa using hi2,set_take hi3 (by simpa using hi2) (mk_Etss_at hx),set_drop hi4⟩) ?_ _ ?_).trans ?_;(focus (first | omega | (simp;done) | (simp;omega)));(focus (simp [normE,hw,hw1];done));(focus (rfl)))
 | (apply end_leaf (ex:=(Ext.exit 0)) 2 (some [1]);(focus (simp [normE];rfl));(focus (simp)))
theorem mkf_Etss (k : Int) (l : List (List Et)) (hk : 0 ≤ k) (hl : l.length < 2000000) (hb : k + (cn_Etss l : Nat) < 1000000000000000000) : oc.call 32 [.iol 1 (etss true l),.int .i64 k] = some (.int .i64 (k + (cn_Etss l : Nat)),[.lst true 1 (etss true (mk_Etss k l))]) := by
 refine fun_s rfl cd32 rfl rfl rfl (by simp;rfl) (by simp;rfl) ?_
 refine wa_ (wc_region (w_ (a_ (h:=wo_nil (e_ (h:=aft_normal (wa_ (wa_ (wc_region (w_ (a_ (h:=wo_nil (e_ (h:=aft_normal (wc_block (?_))))))))))))))))
 refine wc_loop (l_mk_Etss k l hk hl hb (0,l) (by simp) _ (by simp [normE,cn_Etss])) ?_
 refine blk_exit (aft_normal (wa_ (wc_region (w_ (m_ (h:=w_ (a_ (h:=wo_nil (e_ (h:=aft_normal (wc_ret (?_))))))))))))
 all_goals (refine fin_ (hr:=(res_tmp rfl res_nil)) (h:=?_);(focus (first | (simp_all;done) | (simp_all <;> omega) | (simp_all <;> split <;> simp_all <;> omega))))
def wEs (l : List (List Et)) : Prop := l.length < 2000000 ∧ ∀ x ∈ l,w_Ets x < 2000000
theorem l_eq_Etss (l m : List (List Et)) (h : wEs l) (h2 : wEs m) (hlm : l.length = m.length) : ∀ i : Nat,(i ≤ l.length) → ∀ s,normE 2 (some [0,1,5]) s = ⟨[(0,.lst false 0 (etss false l)),(1,.lst false 0 (etss false m)),(5,.int .i64 i)],[],2⟩ →
 oc.loop 31 4 s = some (if l.drop i = m.drop i then (.exit 0,⟨[],[],2⟩) else (.ret,⟨[(4,.bool false)],[],2⟩)) := by
 refine loop_ind (σ:=Nat) (fun i => l.length - i) _ (fun i => ⟨[(0,.lst false 0 (etss false l)),(1,.lst false 0 (etss false m)),(5,.int .i64 i)],[],2⟩) _ ?_
 intro i hi ih s hs
 refine loop_s cd31 rfl rfl hs ?_
 obtain ⟨hl1,hl2⟩ := h
 obtain ⟨hm1,hm2⟩ := h2
 refine wa_ (wa_ (wc_region (w_ (m_ (h:=w_ (m_ (h:=w_ (le (h:=w_ (b_ (h:=wo_nil (e_ (h:=aft_normal (?_))))))))))))))
 refine c_ (h1:=?_) (h2:=?_)
 rotate_right 1
 focus
  intro c1
  simp at c1;have : i = l.length := (by omega);subst this
  refine wc_exit (?_)
 rotate_right 1
 focus
  intro c1
  simp at c1;have hw := wrap_succ (i:=i) (by omega);obtain ⟨x,hx,d1,g1⟩ := etss_cut (t:=false) c1;obtain ⟨y,hy,d2,g2⟩ := etss_cut (t:=false) (l:=m) (i:=i) (by omega);have m1 := hl2 x (List.mem_of_getElem? hx);have m2 := hm2 y (List.mem_of_getElem? hy)
  refine wc_skip (?_)
 all_goals first
 | refine aft_exit ?_
 | (
  refine aft_normal ?_
  refine wa_ (wc_block (wa_ (wc_draw (y_ (m_ (h:=ax_ (h:=y_ (m_ (h:=ax_ (h:=y_ (x_ (h:=ax_ (h:=y_ (l_ (h:=ax_ (h:=y_ (m_ (h:=ax_ (h:=y_ (m_ (h:=ax_ (h:=y_ (x_ (h:=ax_ (h:=y_ (l_ (h:=ax_ (h:=?_))))))))))))))))))))))))))))
  refine y_ (ca (hc:=eq_Ets x y m1 m2) (h:=ax_ (h:=y_ (u_ (h:=ax_ (h:=wo_nil (ed (h:=aft_normal (?_)))))))))
  refine c_ (h1:=?_) (h2:=?_)
  rotate_right 1
  focus
   intro c2
   refine wc_skip (?_)
  rotate_right 1
  focus
   intro c2
   refine wa_ (wc_region (w_ (a_ (h:=wo_nil (e_ (h:=aft_normal (wc_ret (?_))))))))
  all_goals first | refine blk_normal ?_ | refine blk_ret ?_
  all_goals first
  | refine aft_ret ?_
  | (
   refine aft_normal ?_
   refine wc_region (w_ (m_ (h:=w_ (b_ (h:=w_ (a_ (h:=wo_nil (e_ (h:=?_)))))))))
   )
  )
 all_goals first
 | (refine (ih (i + 1) (by omega) ?_ _ ?_).trans ?_;(focus (first | omega | (simp;done) | (simp;omega)));(focus (simp [normE,hw];done));(focus (simp at c2;rw [d1,d2];simp [c2])))
 | (apply end_leaf (ex:=Ext.ret) 2 (some [4]);(focus (simp [normE];rfl));(focus (simp at c2;rw [d1,d2];simp [c2])))
 | (apply end_leaf (ex:=(Ext.exit 0)) 2 (some [4]);(focus (simp [normE];rfl));(focus (rw [if_pos (by simp [hlm])])))
theorem eq_Etss (l m : List (List Et)) (h : wEs l) (h2 : wEs m) : oc.call 31 [.lst false 0 (etss false l),.lst false 0 (etss false m)] = some (.bool (decide (l = m)),[]) := by
 refine fun_s rfl cd31 rfl rfl rfl (by simp;rfl) (by simp;rfl) ?_
 have hl1 := h.1
 have hm1 := h2.1
 refine wa_ (wc_region (w_ (a_ (h:=wo_nil (e_ (h:=aft_normal (wa_ (wa_ (wc_region (w_ (m_ (h:=w_ (le (h:=w_ (m_ (h:=w_ (le (h:=?_))))))))))))))))))
 refine w_ (bE (h:=wo_nil (e_ (h:=aft_normal (?_)))))
 refine c_ (h1:=?_) (h2:=?_)
 rotate_right 1
 focus
  intro c1
  simp at c1
  refine wc_skip (?_)
 rotate_right 1
 focus
  intro c1
  simp at c1;have hne : l ≠ m := (by rintro rfl;exact c1 rfl)
  refine wa_ (wc_region (w_ (a_ (h:=wo_nil (e_ (h:=aft_normal (wc_ret (?_))))))))
 all_goals first
 | refine aft_ret ?_
 | (
  refine aft_normal ?_
  refine wa_ (wa_ (wc_region (w_ (a_ (h:=wo_nil (e_ (h:=aft_normal (wc_block (?_)))))))))
  refine wc_loopI (l_eq_Etss l m h h2 (by omega) 0 (by omega) _ (by simp [normE])) ?_ ?_
  rotate_right 1
  focus
   intro c2
   skip
  rotate_right 1
  focus
   intro c2
   skip
  all_goals first | refine blk_ret ?_ | refine blk_exit ?_
  all_goals first
  | refine aft_ret ?_
  | (
   refine aft_normal ?_
   refine wa_ (wc_region (w_ (a_ (h:=wo_nil (e_ (h:=aft_normal (wc_ret (?_))))))))
   )
  )
 all_goals (refine fin_ (hr:=(res_tmp rfl res_nil)) (h:=?_);(focus (first | (simp_all;done) | (simp_all <;> omega) | (simp_all <;> split <;> simp_all <;> omega))))
section
variable {call : Call} {id base : Nat} {e : List (Nat × V)} {o : List (Nat × Ob)} {n : Nat} {t : TypeId} {K : V → List (Nat × Ob) → Prop}
end
end Go.Proofs.Ytgkbmiaimjpbfaa.Ev
namespace Go.Proofs.Ytgkbmiaimjpbfaa.Ev
open Go
set_option maxRecDepth 100000
set_option linter.unusedSimpArgs false
set_option linter.unusedVariables false
set_option maxHeartbeats 2000000
def partsN (f : List Int → Int) (m : Nat) (z : List Et) : List (List Et) := (List.range m).map fun (k : Nat) => z.filter fun e => decide (f e.row = (k : Int))
@[simp] theorem partsN_len {f : List Int → Int} {m : Nat} {z : List Et} : (partsN f m z).length = m := by simp [partsN]
@[simp] theorem partsN_take {f : List Int → Int} {m : Nat} {z : List Et} : (partsN f m z).take m = partsN f m z := List.take_of_length_le (by simp)
@[simp] abbrev srv (r : Int × List (List Et)) : V := .agg [.int .i64 r.1,.lst true 1 (etss true r.2)]
@[simp] abbrev srF (r : Int × List (List Et)) : V := .agg [.int .i64 r.1,.lst false 0 (etss false r.2)]
theorem e_l2Row (r : List Int) (h : r.length < 2000000) : oc.call 73 [.lst false 0 (ints r)] = some (.lst true 1 (ints r),[]) := by
 refine fun_s rfl cd73 rfl rfl rfl (by simp;rfl) (by simp;rfl) ?_
 refine wa_ (wc_region (w_ (aN (h:=wo_nil (e_ (h:=aft_normal (wa_ (wc_region (w_ (bs (h:=w_ (m_ (h:=w_ (ap (h:=w_ (a_ (h:=wo_nil (e_ (h:=?_)))))))))))))))))))
 refine aft_normal (wc_ret (?_))
 all_goals (refine fin_ (hr:=(res_tmp rfl res_nil)) (h:=?_);(focus (first | (simp_all;done) | (simp_all <;> omega) | (simp_all <;> split <;> simp_all <;> omega))))
theorem cn_Ets_eq {l : List Et} : cn_Ets l = w_Ets l := by
  unfold cn_Ets w_Ets
  induction l with
  | nil => rfl
  | cons x r ih => simp only [wS_cons,List.length_cons,ih,cn_Et,w_Et];omega
theorem wS_leS {α : Type} {f : α → Nat} {c : Nat} {l : List α} (h : ∀ x ∈ l,f x ≤ c) : wS f l ≤ l.length * c := by
  induction l with
  | nil => simp
  | cons x r ih =>
    have h1 := h x (List.mem_cons_self ..)
    have h2 := ih (fun y hy => h y (List.mem_cons_of_mem _ hy))
    simp only [wS_cons,List.length_cons,Nat.succ_mul]
    omega
end Go.Proofs.Ytgkbmiaimjpbfaa.Ev
namespace Go.Proofs.Ytgkbmiaimjpbfaa.Ev
open Go
set_option maxRecDepth 100000
set_option linter.unusedSimpArgs false
set_option linter.unusedVariables false
set_option maxHeartbeats 2000000
theorem ers_cut {l : List Er} {i : Nat} (h : i < l.length) : ∃ x,l[i]? = some x ∧ l.drop i = x :: l.drop (i + 1) ∧ (ers l)[(i : Int).toNat]? = some (x.e.v false) :=
  ⟨l[i],by simp [h],List.drop_eq_getElem_cons h,by simp [ers,ets,h]⟩
@[simp] theorem ers_shareL (l : List Er) : V.shareL (ers l) = ers l := by simp [ers]
def idxUE (p : Er → Bool) (i : Nat) : List Er → Int
  | [] => -1
  | x :: r => if p x = true then i else idxUE p (i + 1) r
theorem idxU_anyE {p : Er → Bool} : ∀ {l : List Er} {i : Nat},decide (0 ≤ idxUE p i l) = l.any p
  | [],i => by simp [idxUE]
  | x :: r,i => by
    unfold idxUE
    by_cases h : p x = true
    · simp [h]
    · simp only [if_neg h,List.any_cons,idxU_anyE (l:=r) (i:=i + 1)];simp [h]
theorem l_ix_NilE (l : List (Er))  (p : Er → Bool) (hl : l.length < 2000000) (hc : ∀ x ∈ l,oc.call 178 [x.e.v false] = some (.bool (p x),[])) : ∀ i : Nat,i ≤ l.length → ∀ s,normE 2 (some [0,1,7,8]) s = ⟨[(0,.lst false 0 (ers l)),(1,.clo 178 []),(7,.int .i64 l.length),(8,.int .i64 i)],[],2⟩ →
 oc.loop 221 2 s = some (if 0 ≤ idxUE p i (l.drop i) then (.ret,⟨[(4,.int .i64 (idxUE p i (l.drop i)))],[],2⟩) else (.exit 0,⟨[],[],2⟩)) := by
 refine loop_ind (fun i => l.length - i) _ (fun i => ⟨[(0,.lst false 0 (ers l)),(1,.clo 178 []),(7,.int .i64 l.length),(8,.int .i64 i)],[],2⟩) _ ?_
 intro i hi ih s hs
 refine loop_s cd221 rfl rfl hs ?_
 refine wa_ (wc_region (w_ (b_ (h:=wo_nil (e_ (h:=aft_normal (wa_ (?_))))))))
 refine c_ (h1:=?_) (h2:=?_)
 rotate_right 1
 focus
  intro c1
  first
  | exact dn c1
  | (
   have d1 := c1;try simp at d1
   refine wc_exit (?_)
   )
 rotate_right 1
 focus
  intro c1
  first
  | exact dn c1
  | (
   have d1 := c1;try simp at d1
   have hw := wrap_succ (i:=i) (by omega);obtain ⟨x,hx,e1,g1⟩ := ers_cut (l:=l) (i:=i) (by omega);have hq := hc x (List.mem_of_getElem? hx)
   refine wc_skip (?_)
   )
 all_goals first
 | refine aft_exit ?_
 | (
  refine aft_normal ?_
  refine wa_ (wc_block (wa_ (wc_region (w_ (m_ (h:=w_ (a_ (h:=wo_nil (e_ (h:=aft_normal (wa_ (wc_region (w_ (m_ (h:=w_ (m_ (h:=?_)))))))))))))))))
  refine w_ (m_ (h:=w_ (x_ (h:=w_ (l_ (h:=w_ (?_)))))))
  refine k_callS rfl rfl (by rw [cf_in];rfl) rfl (by rw [cf_md];rfl) (by simp [cf_md,mdT];rfl) (by first | rfl | simp [*]) hq rfl (by simp;rfl) (by simp [cf_md,mdT]) (by simp;rfl) (by simp;rfl) ?_
  refine wo_nil (e_ (h:=aft_normal (?_)))
  refine c_ (h1:=?_) (h2:=?_)
  rotate_right 1
  focus
   intro c2
   first
   | exact dn c2
   | (
    have d2 := c2;try simp at d2
    refine wc_skip (?_)
    )
  rotate_right 1
  focus
   intro c2
   first
   | exact dn c2
   | (
    have d2 := c2;try simp at d2
    refine wa_ (wc_region (w_ (m_ (h:=w_ (a_ (h:=wo_nil (e_ (h:=aft_normal (wc_ret (?_))))))))))
    )
  all_goals first | refine blk_normal ?_ | refine blk_ret ?_
  all_goals first
  | refine aft_ret ?_
  | (
   refine aft_normal ?_
   refine wc_region (w_ (b_ (h:=w_ (m_ (h:=wo_nil (e_ (h:=?_)))))))
   )
  )
 all_goals first
 | (refine (ih (i + 1) (by omega) ?_ _ ?_).trans ?_;(focus (first | omega | (simp;done) | (simp;omega)));(focus (simp [normE,hw];done));(focus (rw [e1];simp only [idxUE,if_neg (show ¬ p x = true by simp [d2])])))
 | (apply end_leaf (ex:=Ext.ret) 2 (some [4]);(focus (simp [normE];rfl));(focus (rw [e1];simp [idxUE,d2])))
 | (apply end_leaf (ex:=(Ext.exit 0)) 2 (some [4]);(focus (simp [normE];rfl));(focus (rw [List.drop_eq_nil_of_le (by omega)];simp [idxUE])))
theorem e_ix_NilE (l : List (Er))  (p : Er → Bool) (hl : l.length < 2000000) (hc : ∀ x ∈ l,oc.call 178 [x.e.v false] = some (.bool (p x),[])) : oc.call 221 [.lst false 0 (ers l),.clo 178 []] = some (.int .i64 (if 0 ≤ idxUE p 0 l then idxUE p 0 l else -1),[]) := by
 refine fun_s rfl cd221 rfl rfl rfl (by simp;rfl) (by simp;rfl) ?_
 refine wa_ (wc_region (w_ (a_ (h:=wo_nil (e_ (h:=aft_normal (wa_ (wa_ (wc_region (w_ (m_ (h:=w_ (le (h:=w_ (m_ (h:=wo_nil (e_ (h:=?_))))))))))))))))))
 refine aft_normal (wc_block (?_))
 refine wc_loopI (l_ix_NilE l  p hl hc 0 (by omega) _ (by simp [normE])) ?_ ?_
 rotate_right 1
 focus
  intro c1
  skip
 rotate_right 1
 focus
  intro c1
  skip
 all_goals first | refine blk_ret ?_ | refine blk_exit ?_
 all_goals first
 | refine aft_ret ?_
 | (
  refine aft_normal ?_
  refine wa_ (wc_region (w_ (a_ (h:=wo_nil (e_ (h:=aft_normal (wc_ret (?_))))))))
  )
 all_goals (refine fin_ (hr:=(res_tmp rfl res_nil)) (h:=?_);(focus (clear hc;first | (simp_all;done) | (simp_all <;> omega))))
theorem e_rf1E (d : Er) : oc.call 178 [d.e.v false] = some (.bool (decide (d.w = 0)),[]) := by
 refine fun_s rfl cd178 rfl rfl rfl (by simp;rfl) (by simp;rfl) ?_
 refine wa_ (wc_region (w_ (bx (h:=w_ (a_ (h:=wo_nil (e_ (h:=aft_normal (wa_ (wc_region (w_ (f_ (h:=w_ (l_ (h:=w_ (bE (h:=w_ (a_ (h:=?_)))))))))))))))))))
 refine wo_nil (e_ (h:=aft_normal (wc_ret (?_))))
 all_goals (refine fin_ (hr:=(res_tmp rfl res_nil)) (h:=?_);(focus (first | rfl | simp [Er.e])))
def badE (d : Er) : Bool := !inI d.w (-1000000000000) 1000000000000
theorem l_ix_BigE (l : List (Er))  (p : Er → Bool) (hl : l.length < 2000000) (hc : ∀ x ∈ l,oc.call 179 [x.e.v false] = some (.bool (p x),[])) : ∀ i : Nat,i ≤ l.length → ∀ s,normE 2 (some [0,1,7,8]) s = ⟨[(0,.lst false 0 (ers l)),(1,.clo 179 []),(7,.int .i64 l.length),(8,.int .i64 i)],[],2⟩ →
 oc.loop 221 2 s = some (if 0 ≤ idxUE p i (l.drop i) then (.ret,⟨[(4,.int .i64 (idxUE p i (l.drop i)))],[],2⟩) else (.exit 0,⟨[],[],2⟩)) := by
 refine loop_ind (fun i => l.length - i) _ (fun i => ⟨[(0,.lst false 0 (ers l)),(1,.clo 179 []),(7,.int .i64 l.length),(8,.int .i64 i)],[],2⟩) _ ?_
 intro i hi ih s hs
 refine loop_s cd221 rfl rfl hs ?_
 refine wa_ (wc_region (w_ (b_ (h:=wo_nil (e_ (h:=aft_normal (wa_ (?_))))))))
 refine c_ (h1:=?_) (h2:=?_)
 rotate_right 1
 focus
  intro c1
  first
  | exact dn c1
  | (
   have d1 := c1;try simp at d1
   refine wc_exit (?_)
   )
 rotate_right 1
 focus
  intro c1
  first
  | exact dn c1
  | (
   have d1 := c1;try simp at d1
   have hw := wrap_succ (i:=i) (by omega);obtain ⟨x,hx,e1,g1⟩ := ers_cut (l:=l) (i:=i) (by omega);have hq := hc x (List.mem_of_getElem? hx)
   refine wc_skip (?_)
   )
 all_goals first
 | refine aft_exit ?_
 | (
  refine aft_normal ?_
  refine wa_ (wc_block (wa_ (wc_region (w_ (m_ (h:=w_ (a_ (h:=wo_nil (e_ (h:=aft_normal (wa_ (wc_region (w_ (m_ (h:=w_ (m_ (h:=?_)))))))))))))))))
  refine w_ (m_ (h:=w_ (x_ (h:=w_ (l_ (h:=w_ (?_)))))))
  refine k_callS rfl rfl (by rw [cf_in];rfl) rfl (by rw [cf_md];rfl) (by simp [cf_md,mdT];rfl) (by first | rfl | simp [*]) hq rfl (by simp;rfl) (by simp [cf_md,mdT]) (by simp;rfl) (by simp;rfl) ?_
  refine wo_nil (e_ (h:=aft_normal (?_)))
  refine c_ (h1:=?_) (h2:=?_)
  rotate_right 1
  focus
   intro c2
   first
   | exact dn c2
   | (
    have d2 := c2;try simp at d2
    refine wc_skip (?_)
    )
  rotate_right 1
  focus
   intro c2
   first
   | exact dn c2
   | (
    have d2 := c2;try simp at d2
    refine wa_ (wc_region (w_ (m_ (h:=w_ (a_ (h:=wo_nil (e_ (h:=aft_normal (wc_ret (?_))))))))))
    )
  all_goals first | refine blk_normal ?_ | refine blk_ret ?_
  all_goals first
  | refine aft_ret ?_
  | (
   refine aft_normal ?_
   refine wc_region (w_ (b_ (h:=w_ (m_ (h:=wo_nil (e_ (h:=?_)))))))
   )
  )
 all_goals first
 | (refine (ih (i + 1) (by omega) ?_ _ ?_).trans ?_;(focus (first | omega | (simp;done) | (simp;omega)));(focus (simp [normE,hw];done));(focus (rw [e1];simp only [idxUE,if_neg (show ¬ p x = true by simp [d2])])))
 | (apply end_leaf (ex:=Ext.ret) 2 (some [4]);(focus (simp [normE];rfl));(focus (rw [e1];simp [idxUE,d2])))
 | (apply end_leaf (ex:=(Ext.exit 0)) 2 (some [4]);(focus (simp [normE];rfl));(focus (rw [List.drop_eq_nil_of_le (by omega)];simp [idxUE])))
theorem e_ix_BigE (l : List (Er))  (p : Er → Bool) (hl : l.length < 2000000) (hc : ∀ x ∈ l,oc.call 179 [x.e.v false] = some (.bool (p x),[])) : oc.call 221 [.lst false 0 (ers l),.clo 179 []] = some (.int .i64 (if 0 ≤ idxUE p 0 l then idxUE p 0 l else -1),[]) := by
 refine fun_s rfl cd221 rfl rfl rfl (by simp;rfl) (by simp;rfl) ?_
 refine wa_ (wc_region (w_ (a_ (h:=wo_nil (e_ (h:=aft_normal (wa_ (wa_ (wc_region (w_ (m_ (h:=w_ (le (h:=w_ (m_ (h:=wo_nil (e_ (h:=?_))))))))))))))))))
 refine aft_normal (wc_block (?_))
 refine wc_loopI (l_ix_BigE l  p hl hc 0 (by omega) _ (by simp [normE])) ?_ ?_
 rotate_right 1
 focus
  intro c1
  skip
 rotate_right 1
 focus
  intro c1
  skip
 all_goals first | refine blk_ret ?_ | refine blk_exit ?_
 all_goals first
 | refine aft_ret ?_
 | (
  refine aft_normal ?_
  refine wa_ (wc_region (w_ (a_ (h:=wo_nil (e_ (h:=aft_normal (wc_ret (?_))))))))
  )
 all_goals (refine fin_ (hr:=(res_tmp rfl res_nil)) (h:=?_);(focus (clear hc;first | (simp_all;done) | (simp_all <;> omega))))
theorem e_any_BigE (l : List (Er))  (p : Er → Bool) (hl : l.length < 2000000) (hc : ∀ x ∈ l,oc.call 179 [x.e.v false] = some (.bool (p x),[])) : oc.call 153 [.lst false 0 (ers l),.clo 179 []] = some (.bool (l.any p),[]) := by
 refine fun_s rfl cd153 rfl rfl rfl (by simp;rfl) (by simp;rfl) ?_
 refine wa_ (wc_region (w_ (a_ (h:=wo_nil (e_ (h:=aft_normal (wa_ (wc_region (w_ (m_ (h:=w_ (m_ (h:=w_ (ca (hc:=e_ix_BigE l  p hl hc) (h:=w_ (b_ (h:=w_ (a_ (h:=?_)))))))))))))))))))
 refine wo_nil (e_ (h:=aft_normal (wc_ret (?_))))
 all_goals (refine fin_ (hr:=(res_tmp rfl res_nil)) (h:=?_);(focus (clear hc;rw [← idxU_anyE (i:=0)];simp;grind)))
theorem e_rf2E (d : Er) : oc.call 179 [d.e.v false] = some (.bool (badE d),[]) := by
 refine fun_s rfl cd179 rfl rfl rfl (by simp;rfl) (by simp;rfl) ?_
 refine wa_ (wc_region (w_ (bx (h:=w_ (a_ (h:=wo_nil (e_ (h:=aft_normal (wa_ (wc_region (w_ (f_ (h:=w_ (l_ (h:=w_ (ca (hc:=e_isWeight _) (h:=w_ (u_ (h:=?_)))))))))))))))))))
 refine w_ (a_ (h:=wo_nil (e_ (h:=aft_normal (wc_ret (?_))))))
 all_goals (refine fin_ (hr:=(res_tmp rfl res_nil)) (h:=?_);(focus (simp [badE,Er.e])))
def isUE (d : Er) : Bool := decide (¬ d.w = 0)
def notUE (d : Er) : Bool := decide (d.w = 0)
theorem idxU_negE : ∀ {l : List Er} {i : Nat},¬ 0 ≤ idxUE notUE i l → l.filter isUE = l
  | [],_,_ => rfl
  | x :: r,i,h => by
    unfold idxUE at h
    by_cases hx : notUE x = true
    · rw [if_pos hx] at h;omega
    · rw [if_neg hx] at h
      have h4 : isUE x = true := by simp [notUE] at hx;simp [isUE,hx]
      rw [List.filter_cons,if_pos h4,idxU_negE h]
theorem idxU_posE : ∀ {l : List Er} {i : Nat},0 ≤ idxUE notUE i l → ∃ k : Nat,idxUE notUE i l = ((i + k : Nat) : Int) ∧ k < l.length ∧ (l.take k).filter isUE = l.take k ∧ (l.drop k).filter isUE = (l.drop (k + 1)).filter isUE
  | [],i,h => by simp [idxUE] at h
  | x :: r,i,h => by
    unfold idxUE at h ⊢
    by_cases hx : notUE x = true
    · rw [if_pos hx]
      have h4 : ¬ isUE x = true := by simp [notUE] at hx;simp [isUE,hx]
      exact ⟨0,by simp,by simp,rfl,by simp [h4]⟩
    · rw [if_neg hx] at h ⊢
      obtain ⟨k,e1,e2,e3,e4⟩ := idxU_posE h
      have h4 : isUE x = true := by simp [notUE] at hx;simp [isUE,hx]
      exact ⟨k + 1,by rw [e1];congr 1;omega,by simp;omega,by rw [List.take_succ_cons,List.filter_cons,if_pos h4,e3],by simpa using e4⟩
def Ov (o : Option (List Int)) (w : Int) : V := .agg [match o with | some r => .lst true 1 (ints r) | none => .und,.int .i64 w]
def ovs (r : List (Option (List Int) × Int)) : List V := r.map fun p => Ov p.1 p.2
@[simp] theorem ovs_len (r : List (Option (List Int) × Int)) : (ovs r).length = r.length := by simp [ovs]
def ovE (x : Er) : Option (List Int) × Int := (some x.row,x.w)
def erT (l : List Er) : List V := ets true (l.map Er.e)
@[simp] theorem erT_len (l : List Er) : (erT l).length = l.length := by simp [erT]
@[simp] theorem erT_nil : erT [] = [] := rfl
@[simp] theorem erT_shareL (l : List Er) : V.shareL (erT l) = ers l := by simp [erT,ers]
@[simp] theorem erT_take (n : Nat) (l : List Er) : (erT l).take n = erT (l.take n) := by simp [erT]
theorem ovs_T (l : List Er) : ovs (l.map ovE) = erT l := by
  simp only [ovs,erT,ets,List.map_map];rfl
theorem ovs_get {r : List (Option (List Int) × Int)} {i : Nat} {p : Option (List Int) × Int} (h : r[i]? = some p) : (ovs r)[i]? = some (Ov p.1 p.2) := by simp [ovs,h]
@[simp] theorem ovs_set1 (r : List (Option (List Int) × Int)) (i : Nat) (w : Int) : (ovs r).set i (V.agg [.und,.int .i64 w]) = ovs (r.set i (none,w)) := by simp [ovs,List.map_set,Ov]
@[simp] theorem ovs_set2 (r : List (Option (List Int) × Int)) (i : Nat) (a : List Int) (w : Int) : (ovs r).set i (V.agg [.lst true 1 (ints a),.int .i64 w]) = ovs (r.set i (some a,w)) := by simp [ovs,List.map_set,Ov]
theorem ovs_take (n : Nat) (r : List (Option (List Int) × Int)) : (ovs r).take n = ovs (r.take n) := by simp [ovs,List.map_take]
@[simp] theorem Ov_cells (a : Option (List Int)) (b : Int) : (Ov a b).cells = 2 := by cases a <;> rfl
@[simp] theorem Ov_alikeP (a : Option (List Int)) (b c : Int) (k : IntKind) (o i v n : Nat) (fs : List Nat) : (Ov a b).alike (.agg [.plc o i fs v n,.int k c]) = true := by cases a <;> rfl
@[simp] theorem Ov_alikeL (a : Option (List Int)) (b c : Int) (k : IntKind) (t : Bool) (z : Nat) (xs : List V) : (Ov a b).alike (.agg [.lst t z xs,.int k c]) = true := by cases a <;> rfl
@[simp] theorem Ov_scal (a : Option (List Int)) (b : Int) : (Ov a b).scal = false := by cases a <;> rfl
theorem fz_mvE {o : List (Nat × Ob)} {n q j v m z : Nat} {ob : Ob} {xs : List V} {k k' : IntKind} {w w' : Int} (ho : geta o q = some ob) (hv : ob.ver = v) (hg : ob.xs[j]? = some (.agg [.lst true z xs,.int k w])) (hm : xs.length = m) :
    V.fz (.agg [.plc q j [0] v m,.int k' w']) ⟨[],o,n⟩ = some (.agg [.lst true z xs,.int k' w'],⟨[],(q,⟨ob.bx,ob.fx,ob.sz,ob.xs.set j (.agg [.und,.int k w]),v⟩) :: o,n⟩) := by
  subst hv hm
  simp [V.fz,V.fzL,St.takeQ,St.at,ho,Ob.get,Ob.set,hg,getF,setF,mp,puta]
def delFE : List Er → Nat → Nat → List (Option (List Int) × Int) → Nat × List (Option (List Int) × Int)
  | [],i,_,r => (i,r)
  | d :: t,i,j,r => if isUE d = true then delFE t (i + 1) (j + 1) ((r.set j (none,d.w)).set i (ovE d)) else delFE t i (j + 1) r
theorem delF_isE : ∀ {t : List Er} {i j : Nat} {r : List (Option (List Int) × Int)},i < j → j + t.length = r.length → (delFE t i j r).2.length = r.length ∧ (delFE t i j r).1 < r.length + 1 ∧ (delFE t i j r).2.take (delFE t i j r).1 = r.take i ++ (t.filter isUE).map ovE
  | [],i,j,r,h0,h => by simp [delFE] at *;omega
  | d :: t,i,j,r,h0,h => by
    simp only [List.length_cons] at h
    unfold delFE
    by_cases hd : isUE d = true
    · rw [if_pos hd]
      obtain ⟨h1,h2,h3⟩ := delF_isE (t:=t) (i:=i + 1) (j:=j + 1) (r:=(r.set j (none,d.w)).set i (ovE d)) (by omega) (by simp;omega)
      simp only [List.length_set] at h1 h2
      refine ⟨h1,h2,?_⟩
      rw [h3,List.filter_cons,if_pos hd]
      have : ((r.set j (none,d.w)).set i (ovE d)).take (i + 1) = r.take i ++ [ovE d] := by
        rw [List.take_add_one,List.getElem?_set_self (by simp;omega),List.take_set_of_le (by omega),List.take_set_of_le (by omega)];rfl
      rw [this];simp
    · rw [if_neg hd]
      obtain ⟨h1,h2,h3⟩ := delF_isE (t:=t) (i:=i) (j:=j + 1) (r:=r) (by omega) (by omega)
      exact ⟨h1,h2,by rw [h3,List.filter_cons,if_neg hd]⟩
theorem delF_ltE : ∀ {t : List Er} {i j : Nat} {r : List (Option (List Int) × Int)},i < j → (delFE t i j r).1 < j + t.length
  | [],i,j,r,h => by simp [delFE];exact h
  | d :: t,i,j,r,h => by
    unfold delFE
    split
    · have := delF_ltE (t:=t) (i:=i + 1) (j:=j + 1) (r:=(r.set j (none,d.w)).set i (ovE d)) (by omega);simp;omega
    · have := delF_ltE (t:=t) (i:=i) (j:=j + 1) (r:=r) (by omega);simp;omega
theorem l_delE (l : List Er) (N : Nat) (hN : l.length = N) (hl : N < 2000000) : ∀ x : Nat × Nat × (List (Option (List Int) × Int)),(x.1 < x.2.1 ∧ x.2.1 ≤ N ∧ x.2.2.length = N ∧ x.2.2.drop x.2.1 = (l.drop x.2.1).map ovE) → ∀ s,normE 2 (some [0,1,5,6]) s = ⟨[(0,.ref 0 0 N),(1,.clo 178 []),(5,.int .i64 x.1),(6,.int .i64 x.2.1)],[(0,⟨false,false,2,ovs x.2.2,0⟩)],2⟩ →
 oc.loop 177 5 s = some (.exit 0,⟨[(0,.ref 0 0 N),(5,.int .i64 ((delFE (l.drop x.2.1) x.1 x.2.1 x.2.2).1 : Nat))],[(0,⟨false,false,2,ovs (delFE (l.drop x.2.1) x.1 x.2.1 x.2.2).2,0⟩)],2⟩) := by
 refine loop_ind (σ:=Nat × Nat × (List (Option (List Int) × Int))) (fun x => N - x.2.1) _ (fun x => ⟨[(0,.ref 0 0 N),(1,.clo 178 []),(5,.int .i64 x.1),(6,.int .i64 x.2.1)],[(0,⟨false,false,2,ovs x.2.2,0⟩)],2⟩) _ ?_
 rintro ⟨i,j,r⟩ hi ih s hs
 simp only at hi
 refine loop_s cd177 rfl rfl hs ?_
 obtain ⟨hi1,hi2,hi3,hi4⟩ := hi
 refine wa_ (wa_ (wc_region (w_ (m_ (h:=w_ (m_ (h:=w_ (le (h:=w_ (b_ (h:=wo_nil (e_ (h:=aft_normal (?_))))))))))))))
 refine c_ (h1:=?_) (h2:=?_)
 rotate_right 1
 focus
  intro c1
  first
  | exact dn c1
  | (
   have d1 := c1;try simp at d1
   refine wc_exit (?_)
   )
 rotate_right 1
 focus
  intro c1
  first
  | exact dn c1
  | (
   have d1 := c1;try simp at d1
   have hw := wrap_succ (i:=j) (by omega);have hwi := wrap_succ (i:=i) (by omega);obtain ⟨d,hx,e1,_⟩ := ers_cut (l:=l) (i:=j) (by omega);have hy : r[j]? = some (ovE d) := (by have := congrArg (fun q => q[0]?) hi4;simpa [hx] using this);have g2 : (ovs r)[j]? = some (V.agg [.lst true 1 (ints d.row),.int .i64 d.w]) := ovs_get hy;obtain ⟨y,hy2⟩ : ∃ y,r[i]? = some y := ⟨r[i]'(by omega),by simp⟩;have g3 : (ovs r)[i]? = some (Ov y.1 y.2) := ovs_get hy2;have g4 : ((ovs r).set j (V.agg [.und,.int .i64 d.w]))[i]? = some (Ov y.1 y.2) := (by rw [List.getElem?_set_ne (by omega)];exact g3);have e2 : r.drop (j + 1) = (l.drop (j + 1)).map ovE := (by have := congrArg (List.drop 1) hi4;simpa using this)
   refine wc_skip (?_)
   )
 all_goals first
 | refine aft_exit ?_
 | (
  refine aft_normal ?_
  refine wa_ (wc_block (wa_ (wc_region (w_ (m_ (h:=w_ (m_ (h:=w_ (x_ (h:=w_ (l_ (h:=w_ (al (h:=w0 (s_ (h:=wo_nil (e_ (h:=aft_normal (?_)))))))))))))))))))
  refine wa_ (wc_region (w_ (m_ (h:=w_ (l_ (h:=w_ (?_)))))))
  refine ca (hsr:=by simp [g2,Er.e,Et.v,lz]) (hc:=e_rf1E d) (h:=?_)
  refine w_ (u_ (h:=wo_nil (e_ (h:=aft_normal (?_)))))
  refine c_ (h1:=?_) (h2:=?_)
  rotate_right 1
  focus
   intro c2
   first
   | exact dn c2
   | (
    have d2 := c2;try simp at d2
    refine wc_skip (?_)
    )
  rotate_right 1
  focus
   intro c2
   first
   | exact dn c2
   | (
    have d2 := c2;try simp at d2
    refine wa_ (wc_region (w_ (m_ (h:=w_ (m_ (h:=w_ (l_ (h:=w_ (x_ (h:=w0 (?_)))))))))))
    refine s_ (h1:=k_storeE (tys_ok.zero _ _ rfl) rfl rfl rfl rfl g3 (by simp) (by rfl) (fz_mvE rfl rfl g2 (by simp)) rfl rfl g4 (by simp) rfl rfl ⟨rfl,rfl⟩) (h:=?_)
    refine wo_nil (e_ (h:=aft_normal (wc_region (w_ (m_ (h:=w_ (b_ (h:=w_ (a_ (h:=wo_nil (e_ (h:=?_))))))))))))
    )
  all_goals refine blk_normal ?_
  all_goals first
  | (
   refine aft_normal ?_
   refine wc_region (w_ (m_ (h:=w_ (b_ (h:=w_ (a_ (h:=wo_nil (e_ (h:=?_)))))))))
   )
  )
 all_goals first
 | (refine (ih ((i + 1,j + 1,(r.set j (none,d.w)).set i (ovE d))) (⟨by simp only;omega,by simp only;omega,by simpa using hi3,by simp only;rw [List.drop_set_of_lt (by omega),List.drop_set_of_lt (by omega)];exact e2⟩) ?_ _ ?_).trans ?_;(focus (first | omega | (simp;done) | (simp;omega)));(focus (simp [normE,hw,hwi,ovE];done));(focus (rw [e1,delFE,if_pos (by simpa [isUE] using d2)])))
 | (refine (ih ((i,j + 1,r)) (⟨by simp only;omega,by simp only;omega,by simpa using hi3,by simp only;exact e2⟩) ?_ _ ?_).trans ?_;(focus (first | omega | (simp;done) | (simp;omega)));(focus (simp [normE,hw];done));(focus (rw [e1,delFE,if_neg (by simpa [isUE] using d2)])))
 | (apply end_leaf (ex:=(Ext.exit 0)) 2 (some [0,5]);(focus (simp [normE];rfl));(focus (dsimp only;rw [List.drop_eq_nil_of_le (by omega)];simp [delFE])))
theorem e_delUE (l : List Er) (hl : l.length < 2000000) : oc.call 177 [.lst true 2 (erT l),.clo 178 []] = some (.lst true 2 (erT (l.filter isUE)),[]) := by
  have hix := e_ix_NilE l notUE hl (fun x _ => by simpa [notUE] using e_rf1E x)
  have hsh : V.shareL (erT l) = ers l := by simp [erT,ers]
  have hsn : V.shareL (ovs (l.map ovE)) = ers l := by rw [ovs_T];exact hsh
  by_cases hp : 0 ≤ idxUE notUE 0 l
  · obtain ⟨k,e1,e2,e3,e4⟩ := idxU_posE hp
    rw [if_pos hp,e1] at hix
    simp only [Nat.zero_add] at hix
    obtain ⟨D1,D2,D3⟩ := delF_isE (t:=l.drop (k + 1)) (i:=k) (j:=k + 1) (r:=l.map ovE) (by omega) (by simp;omega)
    have D4 := delF_ltE (t:=l.drop (k + 1)) (i:=k) (j:=k + 1) (r:=l.map ovE) (by omega)
    have hfilt : l.filter isUE = l.take k ++ (l.drop (k + 1)).filter isUE := by
      conv => lhs;rw [← List.take_append_drop k l]
      rw [List.filter_append,e3,e4]
    rw [← List.map_take,← List.map_append,← hfilt] at D3
    obtain ⟨I,R,hD⟩ : ∃ I R,delFE (l.drop (k + 1)) k (k + 1) (l.map ovE) = (I,R) := ⟨_,_,rfl⟩
    rw [hD] at D1 D2 D3 D4
    simp only at D1 D2 D3 D4
    obtain ⟨F,hF⟩ : ∃ F,l.filter isUE = F := ⟨_,rfl⟩
    rw [hF] at D3 ⊢
    simp only [List.length_map,List.length_drop] at D1 D2 D4
    have hFl : F.length = I := by have := congrArg List.length D3;simp at this;omega
    subst hFl
    have hw : IntKind.i64.wrap ((k : Int) + 1) = ((k + 1 : Nat) : Int) := wrap_succ (by omega)
    have hdel := l_delE l l.length rfl hl (k,k + 1,l.map ovE) ⟨by simp,by simp;omega,by simp,by simp [List.map_drop]⟩
    simp only [hD] at hdel
    have hcl : (ovs R).take F.length = erT F := by rw [ovs_take,D3,ovs_T]
    have htk : (ovs (l.map ovE)).take l.length = ovs (l.map ovE) := List.take_of_length_le (by simp)
    rw [← ovs_T l]
    refine fun_s rfl cd177 rfl rfl rfl (by simp;rfl) (by simp;rfl) ?_
    refine wa_ (wc_region (w_ (aN (h:=wo_nil (e_ (h:=aft_normal (wa_ (wc_region (w_ (m_ (h:=w_ (m_ (h:=w_ (ca (hc:=hix) (h:=w_ (a_ (h:=wo_nil (e_ (h:=?_)))))))))))))))))))
    refine aft_normal (wa_ (wa_ (wc_region (w_ (m_ (h:=w_ (bE (h:=wo_nil (e_ (h:=aft_normal (?_)))))))))))
    refine c_ (h1:=?_) (h2:=?_)
    rotate_right 1
    focus
     intro c1
     first
     | exact dn c1
     | (have d1 := c1;try simp at d1
        refine wc_skip (?_)
        )
    rotate_right 1
    focus
     intro c1
     first
     | exact dn c1
     | (have d1 := c1;try simp at d1
        exfalso;simp at c1;omega
        )
    all_goals first
    | refine aft_ret ?_
    | (refine aft_normal ?_
       refine wa_ (wa_ (wc_region (w_ (m_ (h:=w_ (b_ (h:=w_ (a_ (h:=wo_nil (e_ (h:=aft_normal (wc_block (?_)))))))))))))
       refine wc_loop (hdel _ (by simp [normE,hw])) ?_
       refine blk_exit (aft_normal (wa_ (wc_region (w_ (m_ (h:=w_ (m_ (h:=w_ (?_)))))))))
       refine sl (v:=.ref 0 F.length (l.length - F.length)) (hv:=cut_tailC rfl (by omega) rfl rfl) (h:=?_)
       refine w0 (?_)
       refine cl (ws:=erT F) (hw:=hcl) (h:=?_)
       refine wo_nil (e_ (h:=aft_normal (wa_ (wc_region (w_ (m_ (h:=w_ (m_ (h:=w_ (sl (h:=w_ (a_ (h:=wo_nil (e_ (h:=aft_normal (wc_ret (?_)))))))))))))))))
       )
    all_goals (refine fin_ (hr:=(res_tmp rfl res_nil)) (h:=?_);(focus (simp)))
  · have hfil := idxU_negE hp
    rw [if_neg hp] at hix
    rw [hfil]
    refine fun_s rfl cd177 rfl rfl rfl (by simp;rfl) (by simp;rfl) ?_
    refine wa_ (wc_region (w_ (aN (h:=wo_nil (e_ (h:=aft_normal (wa_ (wc_region (w_ (m_ (h:=w_ (m_ (h:=w_ (ca (hc:=hix) (h:=w_ (a_ (h:=wo_nil (e_ (h:=?_)))))))))))))))))))
    refine aft_normal (wa_ (wa_ (wc_region (w_ (m_ (h:=w_ (bE (h:=wo_nil (e_ (h:=aft_normal (?_)))))))))))
    refine c_ (h1:=?_) (h2:=?_)
    rotate_right 1
    focus
     intro c1
     first
     | exact dn c1
     | (have d1 := c1;try simp at d1
        exfalso;simp at c1
        )
    rotate_right 1
    focus
     intro c1
     first
     | exact dn c1
     | (have d1 := c1;try simp at d1
        refine wa_ (wc_region (w_ (m_ (h:=w_ (a_ (h:=wo_nil (e_ (h:=aft_normal (wc_ret (?_))))))))))
        )
    all_goals first
    | refine aft_ret ?_
    | (refine aft_normal ?_
       refine wa_ (wa_ (wc_region (w_ (m_ (h:=w_ (b_ (h:=w_ (a_ (h:=wo_nil (e_ (h:=aft_normal (wc_block (?_)))))))))))))
       refine wc_loop (hix) ?_
       refine blk_exit (aft_normal (wa_ (wc_region (w_ (m_ (h:=w_ (m_ (h:=w_ (sl (h:=w0 (cl (h:=wo_nil (e_ (h:=aft_normal (wa_ (wc_region (?_)))))))))))))))))
       refine w_ (m_ (h:=w_ (m_ (h:=w_ (sl (h:=w_ (a_ (h:=wo_nil (e_ (h:=aft_normal (wc_ret (?_))))))))))))
       )
    all_goals (refine fin_ (hr:=(res_tmp rfl res_nil)) (h:=?_);(focus (simp)))
theorem c1_E (l : List Et) (hl : l.length < 2000000) (h : l ≠ []) : runE oc cf 174 [.lst false 0 (ets false l)] = some (.lst true 2 (ets false l),[]) := by
 refine run_s cd174 rfl rfl rfl (by first | (simp;rfl) | rfl) (by first | (simp;rfl) | rfl) ?_
 have hne : ets false l ≠ [] := by simpa [ets] using h
 refine wa_ (wc_region (w_ (aN (h:=wo_nil (e_ (h:=aft_normal (wa_ (wa_ (wc_region (w_ (m_ (h:=w_ (bN (h:=wo_nil (e_ (h:=aft_normal (?_)))))))))))))))))
 refine c_ (h1:=?_) (h2:=?_)
 rotate_right 1
 focus
  intro c1
  refine wc_skip (?_)
 rotate_right 1
 focus
  intro c1
  refine wa_ (wc_region (w_ (aN (h:=wo_nil (e_ (h:=aft_normal (wc_ret (?_))))))))
 all_goals first
 | refine aft_ret ?_
 | (
  refine aft_normal ?_
  refine wa_ (wc_region (w_ (bs (h:=w_ (m_ (h:=w_ (ap (h:=w_ (a_ (h:=wo_nil (e_ (h:=aft_normal (wc_ret (?_))))))))))))))
  )
 all_goals (refine fin_ (hr:=(res_tmp rfl res_nil)) (h:=?_);(focus (first | (simp_all;done) | (simp_all <;> omega) | (simp_all <;> split <;> simp_all <;> omega))))
theorem c2_E  : runE oc cf 174 [.emp true] = some (.lst true 2 [],[]) := by
 refine run_s cd174 rfl rfl rfl (by first | (simp;rfl) | rfl) (by first | (simp;rfl) | rfl) ?_
 refine wa_ (wc_region (w_ (aN (h:=wo_nil (e_ (h:=aft_normal (wa_ (wa_ (wc_region (w_ (m_ (h:=w_ (bN (h:=wo_nil (e_ (h:=aft_normal (?_)))))))))))))))))
 refine c_ (h1:=?_) (h2:=?_)
 rotate_right 1
 focus
  intro c1
  first
  | exact dn c1
  | (
   have d1 := c1;try simp at d1
   refine wc_skip (?_)
   )
 rotate_right 1
 focus
  intro c1
  first
  | exact dn c1
  | (
   have d1 := c1;try simp at d1
   refine wa_ (wc_region (w_ (aN (h:=wo_nil (e_ (h:=aft_normal (wc_ret (?_))))))))
   )
 all_goals first
 | refine aft_ret ?_
 | (
  refine aft_normal ?_
  refine wa_ (wc_region (w_ (bs (h:=w_ (m_ (h:=w_ (ap (h:=w_ (a_ (h:=wo_nil (e_ (h:=aft_normal (wc_ret (?_))))))))))))))
  )
 all_goals (refine fin_ (hr:=(res_tmp rfl res_nil)) (h:=?_);(focus (first | (simp_all;done) | (simp_all <;> omega) | (simp_all <;> split <;> simp_all <;> omega))))
theorem c3_E  : runE oc cf 174 [.emp false] = some (.lst true 2 [],[]) := by
 refine run_s cd174 rfl rfl rfl (by first | (simp;rfl) | rfl) (by first | (simp;rfl) | rfl) ?_
 refine wa_ (wc_region (w_ (aN (h:=wo_nil (e_ (h:=aft_normal (wa_ (wa_ (wc_region (w_ (m_ (h:=w_ (bN (h:=wo_nil (e_ (h:=aft_normal (?_)))))))))))))))))
 refine c_ (h1:=?_) (h2:=?_)
 rotate_right 1
 focus
  intro c1
  first
  | exact dn c1
  | (
   have d1 := c1;try simp at d1
   refine wc_skip (?_)
   )
 rotate_right 1
 focus
  intro c1
  first
  | exact dn c1
  | (
   have d1 := c1;try simp at d1
   refine wa_ (wc_region (w_ (aN (h:=wo_nil (e_ (h:=aft_normal (wc_ret (?_))))))))
   )
 all_goals first
 | refine aft_ret ?_
 | (
  refine aft_normal ?_
  refine wa_ (wc_region (w_ (bs (h:=w_ (m_ (h:=w_ (ap (h:=w_ (a_ (h:=wo_nil (e_ (h:=aft_normal (wc_ret (?_))))))))))))))
  )
 all_goals (refine fin_ (hr:=(res_tmp rfl res_nil)) (h:=?_);(focus (first | (simp_all;done) | (simp_all <;> omega) | (simp_all <;> split <;> simp_all <;> omega))))
theorem e_cloneE (l : List Et) (hl : l.length < 2000000) : oc.call 174 [.lst false 0 (ets false l)] = some (.lst true 2 (ets false l),[]) :=
  nil_s rfl (fun h => c1_E l hl (by rintro rfl;exact h rfl)) (fun h => by have : l = [] := (by simpa [ets] using h);subst this;exact c2_E) (fun h => by have : l = [] := (by simpa [ets] using h);subst this;exact c3_E)
abbrev putE : List Er → Er → List Er := putG ltE addE
theorem l_runE (S : List Er) (hS : Srt ltE 0 S.length S) (hl : S.length < 2000000) (hn : ∀ i,i < S.length → IntKind.i64.wrap (nth S i).w = (nth S i).w) : ∀ x : Nat × (List Er),(x.1 ≤ S.length ∧ (S.take x.1).foldl putE [] = x.2) → ∀ s,normE 1 (some [4,5,13,14,15]) s = ⟨[(4,.ref 1 0 S.length),(5,.ref 2 0 x.2.length),(13,.ref 1 0 S.length),(14,.int .i64 S.length),(15,.int .i64 x.1)],[(1,⟨false,false,2,ers S,0⟩),(2,⟨false,false,2,erT x.2,0⟩)],3⟩ →
 oc.loop 93 4 s = some (.exit 0,⟨[(5,.ref 1 0 (S.foldl putE []).length)],[(1,⟨false,false,2,erT (S.foldl putE []),0⟩)],2⟩) := by
 refine loop_ind (σ:=Nat × (List Er)) (fun x => S.length - x.1) _ (fun x => ⟨[(4,.ref 1 0 S.length),(5,.ref 2 0 x.2.length),(13,.ref 1 0 S.length),(14,.int .i64 S.length),(15,.int .i64 x.1)],[(1,⟨false,false,2,ers S,0⟩),(2,⟨false,false,2,erT x.2,0⟩)],3⟩) _ ?_
 rintro ⟨i,out⟩ hi ih s hs
 simp only at hi
 refine loop_s cd93 rfl rfl hs ?_
 obtain ⟨hi1,hi2⟩ := hi
 have hol : out.length ≤ i := by have := foldG_len (lt:=ltE) (add:=addE) (S:=S.take i) (acc:=[]);rw [hi2] at this;simp at this;omega
 refine wa_ (wc_region (w_ (b_ (h:=wo_nil (e_ (h:=aft_normal (wa_ (?_))))))))
 refine c_ (h1:=?_) (h2:=?_)
 rotate_right 1
 focus
  intro c1
  first
  | exact dn c1
  | (
   have d1 := c1;try simp at d1
   refine wc_exit (?_)
   )
 rotate_right 1
 focus
  intro c1
  first
  | exact dn c1
  | (
   have d1 := c1;try simp at d1
   have hi : i < S.length := (by simp at c1;omega);have hw := wrap_succ (i:=i) (by omega);have g1 : (ers S)[i]? = some ((nth S i).e.v false) := ers_nth hi;have g2 : (ers S)[i - 1]? = some ((nth S (i - 1)).e.v false) := ers_nth (by omega)
   refine wc_skip (?_)
   )
 all_goals first
 | refine aft_exit ?_
 | (
  refine aft_normal ?_
  refine wa_ (wc_block (wa_ (wc_region (w_ (m_ (h:=w_ (x_ (h:=w_ (l_ (h:=w_ (al (h:=w_ (a_ (h:=w0 (s_ (h:=wo_nil (e_ (h:=aft_normal (?_)))))))))))))))))))
  refine wa_ (wa_ (wc_draw (y_ (m_ (h:=ax_ (h:=y_ (bE (h:=ax_ (h:=y_ (m_ (h:=ax_ (h:=?_))))))))))))
  refine gw_ (h1:=?_) (h2:=?_)
  rotate_right 1
  focus
   intro c2
   first
   | exact dn c2
   | (
    have d2 := c2;try simp at d2
    refine gd_ (h:=gd_ (h:=gd_ (h:=gd_ (h:=gd_ (h:=gd_ (h:=gd_ (h:=gd_ (h:=?_))))))))
    )
  rotate_right 1
  focus
   intro c2
   first
   | exact dn c2
   | (
    have d2 := c2;try simp at d2
    refine g_ (h:=y_ (m_ (h:=ax_ (h:=g_ (h:=y_ (m_ (h:=ax_ (h:=g_ (h:=y_ (?_))))))))))
    refine b_ (hv:=iv_sub (c:=i - 1) (by omega) (by omega)) (h:=?_)
    refine ax_ (h:=g_ (h:=y_ (x_ (h:=ax_ (h:=g_ (h:=y_ (l_ (h:=ax_ (h:=g_ (h:=y_ (l_ (h:=ax_ (h:=g_ (h:=y_ (ca (hc:=e_byE (nth S (i - 1)) (nth S i)) (h:=ax_ (h:=g_ (h:=y_ (bE (h:=ax_ (h:=?_)))))))))))))))))))))
    )
  all_goals
   refine y_ (pk (h:=ax_ (h:=wo_nil (ed (h:=?_)))))
  all_goals first
  | (
   refine aft_normal ?_
   refine c_ (h1:=?_) (h2:=?_)
   rotate_right 1
   focus
    intro c3
    first
    | exact dn c3
    | (
     have d3 := c3;try simp at d3
     have e3 : 0 < i ∧ byE (nth S (i - 1)) (nth S i) = 0 := (by simp at c2 c3;omega);obtain ⟨init,x,ho,hold,_⟩ := runG_old U_ltE hS hi e3.1 (by rw [ltE_f];have := e3.2;unfold byE at this;omega);obtain rfl : out = init ++ [x] := hi2.symm.trans ho;have hil : init.length < 2000000 := (by rw [List.length_append] at hol;omega);obtain ⟨L,hL⟩ : ∃ L,L = init.length := ⟨_,rfl⟩;have g3 : (erT (init ++ [x]))[L]? = some (V.agg [.lst true 1 (ints x.row),.int .i64 x.w]) := (by subst hL;simp [erT,ets,Et.v,Er.e,lz]);have g4 : (erT (init ++ [x])).set L (V.agg [.lst true 1 (ints x.row),.int .i64 (IntKind.i64.wrap (x.w + (nth S i).w))]) = erT (init ++ [addE x (nth S i)]) := (by subst hL;simp [erT,ets,Et.v,Er.e,addE,lz])
     refine wc_skip (?_)
     )
   rotate_right 1
   focus
    intro c3
    first
    | exact dn c3
    | (
     have d3 := c3;try simp at d3
     have e3 : i = 0 ∨ byE (nth S (i - 1)) (nth S i) ≠ 0 := (by first | (left;simp at c2;omega) | (right;simpa using c3));have hnew := runG_new U_ltE hS hi (e3.imp id (fun h => run_ltE hS hi h));rw [hi2] at hnew;obtain ⟨L,hL⟩ : ∃ L,L = out.length := ⟨_,rfl⟩;have hrow := (nth S i).ok;have g3 : (erT out ++ [V.agg [.lst true 1 (ints (nth S i).row),.int .i64 0]])[L]? = some (V.agg [.lst true 1 (ints (nth S i).row),.int .i64 0]) := (by subst hL;rw [List.getElem?_append_right (by simp)];simp);have g4 : (erT out ++ [V.agg [.lst true 1 (ints (nth S i).row),.int .i64 0]]).set L (V.agg [.lst true 1 (ints (nth S i).row),.int .i64 (nth S i).w]) = erT (out ++ [nth S i]) := (by subst hL;rw [List.set_append_right _ _ (by simp)];simp [erT,ets,Et.v,Er.e,lz]);have hn0 := hn i hi
     refine wc_region (w_ (m_ (h:=w_ (f_ (h:=w_ (l_ (h:=w_ (ca (hc:=e_cloneI (nth S i).row hrow) (h:=w_ (bd (h:=w_ (bs (h:=w_ (ap (h:=w_ (a_ (h:=wo_nil (e_ (h:=?_)))))))))))))))))))
     )
   )
  all_goals first
  | (
   refine aft_normal ?_
   refine wc_draw (y_ (m_ (h:=ax_ (h:=y_ (m_ (h:=ax_ (h:=y_ (le (h:=ax_ (h:=y_ (?_)))))))))))
   refine b_ (hv:=iv_sub (c:=L) (by simp;omega) (by omega)) (h:=?_)
   refine ax_ (h:=y_ (x_ (h:=ax_ (h:=y_ (f_ (h:=ax_ (h:=y_ (l_ (h:=ax_ (h:=y_ (f_ (h:=ax_ (h:=y_ (l_ (h:=ax_ (h:=y_ (b_ (h:=ax_ (h:=y_ (x_ (h:=ax_ (h:=y_ (f_ (h:=ax_ (h:=y0 (s_ (h:=ax_ (h:=wo_nil (ed (h:=?_))))))))))))))))))))))))))))))
   )
  all_goals refine blk_normal ?_
  all_goals first
  | (
   refine aft_normal ?_
   refine wc_region (w_ (b_ (h:=w_ (m_ (h:=wo_nil (e_ (h:=?_)))))))
   )
  )
 all_goals first
 | (refine (ih ((i + 1,out ++ [nth S i])) (⟨by simp only;omega,by simp only;rw [hnew]⟩) ?_ _ ?_).trans ?_;(focus (first | omega | (simp;done) | (simp;omega)));(focus (simp [normE,hw,g4,hn0,Er.e];done));(focus (rfl)))
 | (refine (ih ((i + 1,init ++ [addE x (nth S i)])) (⟨by simp only;omega,by simp only;rw [hold]⟩) ?_ _ ?_).trans ?_;(focus (first | omega | (simp;done) | (simp;omega)));(focus (simp [normE,hw,g4,Er.e];done));(focus (rfl)))
 | (apply end_leaf (ex:=(Ext.exit 0)) 1 (some [5]);(focus (simp [normE];rfl));(focus (rw [← hi2,List.take_of_length_le (by simp at c1;omega)])))
def sumA (t : List Er) : List Er × Int := if t.any badE = true then ([],8) else if 200 < (t.filter isUE).length then ([],2) else (t.filter isUE,0)
theorem any_fltE : ∀ (t : List Er),(t.filter isUE).any badE = t.any badE
  | [] => rfl
  | c :: t => by
    have ih := any_fltE t
    rw [List.filter_cons,List.any_cons]
    by_cases h : isUE c = true
    · rw [if_pos h,List.any_cons,ih]
    · rw [if_neg h,ih]
      have h0 : c.w = 0 := by simpa [isUE] using h
      have : badE c = false := by simp [badE,h0,inI]
      rw [this];rfl
theorem e_summed (l : List Er) (hl : l.length < 1000000) (hn : ∀ x ∈ l,IntKind.i64.wrap x.w = x.w) : oc.call 93 [.lst false 0 (ers l)] = some (.tup [.lst true 2 (erT (sumA (l.foldl putE [])).1),.int .i64 (sumA (l.foldl putE [])).2],[]) := by
 refine fun_s rfl cd93 rfl rfl rfl (by simp;rfl) (by simp;rfl) ?_
 have hpp := (stb_ok O_ltE l).1
 have hse := putG_perm U_ltE hpp []
 obtain ⟨T,hT⟩ : ∃ T,l.foldl putE [] = T := ⟨_,rfl⟩
 have hse := hse.trans hT
 have hTl : T.length < 1000000 := by have := foldG_len (lt:=ltE) (add:=addE) (S:=l) (acc:=[]);rw [hT] at this;simp at *;omega
 have hFl : (T.filter isUE).length < 1000000 := Nat.lt_of_le_of_lt (List.length_filter_le _ _) hTl
 have hrun := l_runE (stb ltE l) (by have := (stb_ok O_ltE l).2;rwa [← hpp.length_eq] at this) (by rw [hpp.length_eq];omega) (fun i hi => hn _ (hpp.mem_iff.1 (nth_mem hi))) (0,[]) ⟨by simp,by simp⟩
 rw [hse] at hrun
 have hpl : (stb ltE l).length = l.length := hpp.length_eq
 have hcl : oc.call 174 [.lst false 0 (ers l)] = some (.lst true 2 (ers l),[]) := e_cloneE (l.map Er.e) (by simp;omega)
 have hsh : ∀ q,V.shareL (erT q) = ers q := fun q => by simp [erT,ers]
 refine wa_ (wc_region (w_ (aN (h:=w_ (a_ (h:=wo_nil (e_ (h:=aft_normal (wa_ (wc_region (w_ (m_ (h:=w_ (ca (hc:=hcl) (h:=w_ (bs (h:=w_ (a_ (h:=?_)))))))))))))))))))
 refine w_ (a_ (h:=wo_nil (e_ (h:=aft_normal (wa_ (wc_region (w_ (m_ (h:=w_ (?_))))))))))
 refine cI (hc:=e_stab_E l (by omega)) (hal:=ers_alk hpp.length_eq.symm) (h:=?_)
 refine wo_nil (e_ (h:=aft_normal (wa_ (wa_ (wc_region (w_ (m_ (h:=w_ (le (h:=w_ (m_ (h:=wo_nil (e_ (h:=aft_normal (wc_block (?_))))))))))))))))
 refine wc_loop (hrun _ (by simp [normE,hpl,erT])) ?_
 refine blk_exit (aft_normal (wa_ (wc_region (w_ (m_ (h:=w_ (?_)))))))
 refine caT (hc:=e_delUE T (by omega)) (h:=?_)
 refine w_ (a_ (h:=wo_nil (e_ (h:=aft_normal (wa_ (wc_block (wa_ (wc_region (w_ (m_ (h:=w_ (ca (hc:=e_any_BigE (T.filter isUE) badE (by omega) (fun x _ => e_rf2E x)) (h:=w_ (a_ (h:=wo_nil (e_ (h:=aft_normal (?_))))))))))))))))))
 refine c_ (h1:=?_) (h2:=?_)
 rotate_right 1
 focus
  intro c1
  first
  | exact dn c1
  | (
   have d1 := c1;try simp at d1
   refine wa_ (wc_region (w_ (m_ (h:=w_ (le (h:=w_ (b_ (h:=w_ (a_ (h:=wo_nil (e_ (h:=aft_normal (?_)))))))))))))
   refine c_ (h1:=?_) (h2:=?_)
   rotate_right 1
   focus
    intro c2
    first
    | exact dn c2
    | (
     have d2 := c2;try simp at d2
     refine wc_skip (?_)
     )
   rotate_right 1
   focus
    intro c2
    first
    | exact dn c2
    | (
     have d2 := c2;try simp at d2
     refine wa_ (wc_region (w_ (aN (h:=w_ (a_ (h:=wo_nil (e_ (h:=aft_normal (wc_ret (?_))))))))))
     )
   )
 rotate_right 1
 focus
  intro c1
  first
  | exact dn c1
  | (
   have d1 := c1;try simp at d1
   refine wa_ (wc_region (w_ (aN (h:=w_ (a_ (h:=wo_nil (e_ (h:=aft_normal (wc_ret (?_))))))))))
   )
 all_goals first | refine blk_normal ?_ | refine blk_ret ?_
 all_goals first
 | refine aft_ret ?_
 | (
  refine aft_normal ?_
  refine wa_ (wc_region (w_ (m_ (h:=w_ (a_ (h:=w_ (a_ (h:=wo_nil (e_ (h:=aft_normal (wc_ret (?_))))))))))))
  )
 all_goals (refine fin_ (hr:=(res_tmp rfl (res_tmp rfl res_nil))) (h:=?_);(focus (rw [hT];unfold sumA;rw [← any_fltE];first | (simp [*];done) | (rw [if_neg (by simp [*]),if_pos (by first | assumption | omega | (simp at *;omega))];simp;done) | (rw [if_neg (by simp [*]),if_neg (by first | assumption | omega | (simp at *;omega))];simp;done))))
end Go.Proofs.Ytgkbmiaimjpbfaa.Ev
namespace Go.Proofs.Ytgkbmiaimjpbfaa.Ev
open Go
set_option maxRecDepth 100000
set_option linter.unusedSimpArgs false
set_option linter.unusedVariables false
set_option maxHeartbeats 2000000
section
variable {id base : Nat} {e : List (Nat × V)} {o : List (Nat × Ob)} {n : Nat} {t : TypeId} {K : V → List (Nat × Ob) → Prop}
theorem caU {args : Array Operand} {ts : Array TypeId} {fo : Operand} {f : FuncId} {q m sz : Nat} {ys : List V} {v : V} {ob : Ob} {o1 : List (Nat × Ob)} {id' : Nat} (hx : opsV e args.toList = some [.ref q 0 m,v] := by exact rfl) (hf : opV e fo = some (.clo f []) := by exact rfl) (hB : cf.inB f = false := by (rw [cf_in];rfl)) (hmd : cf.md f = [.take] := by (rw [cf_md];rfl)) (ho : geta o q = some ob := by exact rfl) (hb : ob.bx = false := by rfl) (hfx : ob.fx = false := by rfl) (hm : m = ob.xs.length := by first | rfl | simp) (hd : dela o q = o1 := by (simp;rfl))
    (hv : v.isTup = false := by first | rfl | simp) (hvm : v.mention = [] := by first | rfl | simp) (hvs : ∀ s : St,V.snapA s v = some v := by intro s;first | rfl | simp)
    (hc : oc.call f [.lst true ob.sz ob.xs,v] = some (.lst true sz ys,[])) (hid : id = id' := by ((try simp);rfl)) (h : K (.ref id' 0 ys.length) ((id',⟨false,false,sz,ys,0⟩) :: o1)) : opK oc.call cf id base e o n t (.call ⟨.value fo,args,ts⟩) K := by
  subst hd hm hid
  refine ⟨_,_,?_,h⟩
  have hg : St.give ⟨e,o,n⟩ q 0 ob.xs.length = some (ob.sz,ob.xs,⟨e,dela o q,n⟩) := by
    simp only [St.give,ho,hb,hfx,Nat.zero_add,Nat.le_refl,and_self,if_true,List.drop_zero,List.take_length]
  have hz : V.fz (.ref q 0 ob.xs.length) ⟨e,o,n⟩ = some (.lst true ob.sz ob.xs,⟨e,dela o q,n⟩) := by
    simp only [V.fz,hg,mp_some]
  have hs : V.snapA ⟨e,dela o q,n⟩ v = some v := hvs _
  simp only [opE,hx,hf,V.capsOk,if_true,hB,Bool.false_eq_true,if_false,List.append_nil,callV,hmd,lendV,lendOne,List.headD_cons,List.tail_cons,List.headD_nil,List.tail_nil,hz,V.argOk,hv,snapsV,hs,mp_some,hc,plainM,hvm,List.isEmpty_nil,true_or,V.thaw,true_and,backs,List.nil_append,List.singleton_append]
  rw [if_pos (by omega)]
end
@[simp] theorem moveL_0 (xs : List V) : moveL 0 0 xs = xs := by cases xs <;> rfl
theorem moveL_drop : ∀ (p : Nat) (xs : List V),(moveL 0 p xs).drop p = xs.drop p
  | 0,xs => by rw [moveL_0]
  | p + 1,[] => rfl
  | p + 1,x :: r => by simp only [moveL,List.drop_succ_cons,moveL_drop p r]
attribute [simp] moveL_len
@[simp] theorem erT_cells (l : List Er) : V.cellsAll 2 (erT l) = true := by
  induction l with
  | nil => rfl
  | cons x r ih =>
    show (decide (V.cells _ = 2) && V.cellsAll 2 (erT r)) = true
    rw [ih];rfl
@[simp] theorem erT_drop (n : Nat) (l : List Er) : (erT l).drop n = erT (l.drop n) := by simp [erT]
theorem erT_app (l m : List Er) : erT (l ++ m) = erT l ++ erT m := by simp [erT]
theorem erT_cons (c : Er) (l : List Er) : erT (c :: l) = V.agg [.lst true 1 (ints c.row),.int .i64 c.w] :: erT l := rfl
theorem erT_one (c : Er) : erT [c] = [V.agg [.lst true 1 (ints c.row),.int .i64 c.w]] := rfl
theorem erT_get {l : List Er} {i : Nat} (h : i < l.length) : ∃ x,nth l i = x ∧ l.drop i = x :: l.drop (i + 1) ∧ (erT l)[i]? = some (V.agg [.lst true 1 (ints x.row),.int .i64 x.w]) := by
  refine ⟨l[i],by simp [nth,h],List.drop_eq_getElem_cons h,?_⟩
  simp [erT,ets,h,Et.v,Er.e,lz]
theorem erT_set {l : List Er} {i : Nat} {x : Er} {w : Int} : (erT l).set i (V.agg [.lst true 1 (ints x.row),.int .i64 w]) = erT (l.set i ⟨x.row,w,x.ok⟩) := by simp [erT,List.map_set,Er.e]
theorem fzL_mvE {v w : V} {s s' : St} (h : V.fz v s = some (w,s')) : V.fzL ([((0 : Nat),v)].map (·.2)) s = some ([w],s') := by simp [V.fzL,h,mp]
theorem l_l2p (l : List Er) (c : Er) (hq : l.length < 2000000) : ∀ j : Nat,(j ≤ l.length) → ∀ s,normE 2 (some [0,3,5]) s = ⟨[(0,.ref 0 0 l.length),(3,.ptr 2 0 []),(5,.int .i64 j)],[(0,⟨false,false,2,erT l,0⟩),(2,⟨true,false,2,[c.e.v false],0⟩)],3⟩ →
 oc.loop 173 2 s = some (.exit 0,⟨[(0,.ref 0 0 l.length),(3,.ptr 2 0 []),(5,.int .i64 (j + posG ltE (l.drop j) c : Nat))],[(0,⟨false,false,2,erT l,0⟩),(2,⟨true,false,2,[c.e.v false],0⟩)],3⟩) := by
 refine loop_ind (σ:=Nat) (fun j => l.length - j) _ (fun j => ⟨[(0,.ref 0 0 l.length),(3,.ptr 2 0 []),(5,.int .i64 j)],[(0,⟨false,false,2,erT l,0⟩),(2,⟨true,false,2,[c.e.v false],0⟩)],3⟩) _ ?_
 intro j hi ih s hs
 refine loop_s cd173 rfl rfl hs ?_
 refine wa_ (wa_ (wc_draw (y_ (m_ (h:=ax_ (h:=y_ (m_ (h:=ax_ (h:=y_ (le (h:=ax_ (h:=y_ (b_ (h:=ax_ (h:=y_ (m_ (h:=ax_ (h:=?_))))))))))))))))))
 refine gw_ (h1:=?_) (h2:=?_)
 rotate_right 1
 focus
  intro c1
  first
  | exact dn c1
  | (
   have d1 := c1;try simp at d1
   refine gd_ (h:=gd_ (h:=gd_ (h:=gd_ (h:=gd_ (h:=gd_ (h:=gd_ (h:=gd_ (h:=gd_ (h:=?_)))))))))
   )
 rotate_right 1
 focus
  intro c1
  first
  | exact dn c1
  | (
   have d1 := c1;try simp at d1
   have hj : j < l.length := (by simp at c1;omega);have hw := wrap_succ (i:=j) (by omega);obtain ⟨x,hnx,e1,g1⟩ := erT_get hj
   refine g_ (h:=y_ (m_ (h:=ax_ (h:=g_ (h:=y_ (m_ (h:=ax_ (h:=g_ (h:=y_ (x_ (h:=ax_ (h:=g_ (h:=y_ (f_ (h:=ax_ (h:=g_ (h:=y_ (l_ (h:=ax_ (h:=g_ (h:=y_ (f_ (h:=ax_ (h:=g_ (h:=y_ (l_ (h:=ax_ (h:=g_ (h:=y_ (?_))))))))))))))))))))))))))))))
   refine ca (hsr:=by first | rfl | (simp [g1,Er.e];done)) (hc:=e_cmpRS x.row c.row x.ok c.ok) (h:=?_)
   refine ax_ (h:=g_ (h:=y_ (b_ (h:=ax_ (h:=?_)))))
   )
 all_goals
  refine y_ (pk (h:=ax_ (h:=wo_nil (ed (h:=?_)))))
 all_goals first
 | (
  refine aft_normal ?_
  refine c_ (h1:=?_) (h2:=?_)
  rotate_right 1
  focus
   intro c2
   first
   | exact dn c2
   | (
    have d2 := c2;try simp at d2
    refine wc_exit (?_)
    )
  rotate_right 1
  focus
   intro c2
   first
   | exact dn c2
   | (
    have d2 := c2;try simp at d2
    refine wc_skip (?_)
    )
  )
 all_goals first
 | refine aft_exit ?_
 | (
  refine aft_normal ?_
  refine wc_block (wc_region (w_ (m_ (h:=w_ (b_ (h:=w_ (a_ (h:=wo_nil (e_ (h:=blk_normal (?_)))))))))))
  )
 all_goals first
 | (apply end_leaf (ex:=(Ext.exit 0)) 2 (some [0,3,5]);(focus (simp [normE];rfl));(focus (first | (rw [List.drop_eq_nil_of_le (by simp at c1;omega)];rfl) | (rw [e1,posG_f (by rw [ltE_f];simpa using d2)];rfl))))
 | (refine (ih (j + 1) (by omega) ?_ _ ?_).trans ?_;(focus (first | omega | (simp;done) | (simp;omega)));(focus (simp [normE,hw];done));(focus (rw [e1,posG_t (by rw [ltE_t];simpa using d2),show j + (posG ltE (l.drop (j + 1)) c + 1) = j + 1 + posG ltE (l.drop (j + 1)) c by omega])))
theorem e_l2Put (l : List Er) (c : Er) (hq : l.length < 1900000) : oc.call 173 [.lst true 2 (erT l),c.e.v false] = some (.lst true 2 (erT (putE l c)),[]) := by
 refine fun_s rfl cd173 rfl rfl rfl (by simp;rfl) (by simp;rfl) ?_
 have hls := l_l2p l c (by omega) 0 (by omega)
 simp only [List.drop_zero,Nat.zero_add] at hls
 obtain ⟨p,hp⟩ : ∃ p,posG ltE l c = p := ⟨_,rfl⟩
 rw [hp] at hls
 have hpl : p ≤ l.length := by rw [← hp];exact posG_le (lt:=ltE) l c
 have hpn : p < l.length → ltE (nth l p) c = false := fun h => by have := posG_no (lt:=ltE) l c (by rw [hp];exact h);rwa [hp] at this
 refine wa_ (wc_region (w_ (bx (h:=w_ (aN (h:=wo_nil (e_ (h:=aft_normal (wa_ (wc_region (w_ (a_ (h:=wo_nil (e_ (h:=aft_normal (wa_ (?_)))))))))))))))))
 refine wc_block (?_)
 refine wc_loop (hls _ (by simp [normE])) ?_
 refine blk_exit (aft_normal (wa_ (wa_ (wc_draw (y_ (m_ (h:=ax_ (h:=y_ (m_ (h:=ax_ (h:=y_ (le (h:=ax_ (h:=y_ (b_ (h:=ax_ (h:=y_ (m_ (h:=ax_ (h:=?_))))))))))))))))))))
 refine gw_ (h1:=?_) (h2:=?_)
 rotate_right 1
 focus
  intro c1
  first
  | exact dn c1
  | (
   have d1 := c1;try simp at d1
   refine gd_ (h:=gd_ (h:=gd_ (h:=gd_ (h:=gd_ (h:=gd_ (h:=gd_ (h:=gd_ (h:=gd_ (h:=?_)))))))))
   )
 rotate_right 1
 focus
  intro c1
  first
  | exact dn c1
  | (
   have d1 := c1;try simp at d1
   have hpq : p < l.length := (by simp at c1;omega);obtain ⟨x,hnx,e1,g1⟩ := erT_get hpq;have hxc := hpn hpq;rw [hnx,ltE_f] at hxc
   refine g_ (h:=y_ (m_ (h:=ax_ (h:=g_ (h:=y_ (m_ (h:=ax_ (h:=g_ (h:=y_ (x_ (h:=ax_ (h:=g_ (h:=y_ (f_ (h:=ax_ (h:=g_ (h:=y_ (l_ (h:=ax_ (h:=g_ (h:=y_ (f_ (h:=ax_ (h:=g_ (h:=y_ (l_ (h:=ax_ (h:=g_ (h:=y_ (?_))))))))))))))))))))))))))))))
   refine ca (hsr:=by first | rfl | (simp [g1,Er.e];done)) (hc:=e_cmpRS x.row c.row x.ok c.ok) (h:=?_)
   refine ax_ (h:=g_ (h:=y_ (bE (h:=ax_ (h:=?_)))))
   )
 all_goals
  refine y_ (pk (h:=ax_ (h:=wo_nil (ed (h:=?_)))))
 all_goals first
 | (
  refine aft_normal ?_
  refine c_ (h1:=?_) (h2:=?_)
  rotate_right 1
  focus
   intro c2
   first
   | exact dn c2
   | (
    have d2 := c2;try simp at d2
    have k1 : p < l.length → ltE c (nth l p) = true := (fun h => by first | (exfalso;simp at c1;omega) | (rw [hnx,ltE_t,cmpL_anti];first | omega | (simp at d2;omega)));have k2 : putE l c = l.take p ++ [c] ++ l.drop p := (by have := putG_in (lt:=ltE) (add:=addE) l c (by rw [hp];exact k1);rw [hp] at this;exact this);have hroc := c.ok;have km : min p l.length = p := (by omega);have kl : 1 + l.length = l.length + 1 := Nat.add_comm ..;have kq : p + 1 + (l.length - p) = p + (l.length - p + 1) := (by omega);have k9 : (l.drop p).take (l.length - p) = l.drop p := (by rw [List.take_of_length_le (by simp)]);have kmd := moveL_drop p (erT l);have kA : l.take l.length = l := List.take_of_length_le (by simp);have kB : (l.take p).take p = l.take p := (by rw [List.take_take,Nat.min_self]);have kC : (erT (l.take p) ++ [V.agg [.lst true 1 (ints c.row),.int .i64 c.w]]).take (p + 1) = erT (l.take p) ++ [V.agg [.lst true 1 (ints c.row),.int .i64 c.w]] := List.take_of_length_le (by simp;omega);have kD : (erT (l.take p) ++ V.agg [.lst true 1 (ints c.row),.int .i64 c.w] :: erT (l.drop p)).take (p + (l.length - p + 1)) = erT (l.take p) ++ V.agg [.lst true 1 (ints c.row),.int .i64 c.w] :: erT (l.drop p) := List.take_of_length_le (by simp;omega);have kE : (erT l ++ [V.agg [.lst true 1 (ints c.row),.int .i64 c.w]]).take (l.length + 1) = erT l ++ [V.agg [.lst true 1 (ints c.row),.int .i64 c.w]] := List.take_of_length_le (by simp);have kF : l.drop l.length = [] := List.drop_eq_nil_of_le (by simp);have kM : p = 0 → moveL 0 p (erT l) = erT l := (fun e => by rw [e,moveL_0]);rcases (show p = 0 ∨ (0 < p ∧ p < l.length) ∨ (0 < p ∧ p = l.length) by omega) with hp0 | hp0 | hp0
    all_goals
     refine wc_skip (?_)
    )
  rotate_right 1
  focus
   intro c2
   first
   | exact dn c2
   | (
    have d2 := c2;try simp at d2
    have k1 : ltE c x = false := (by rw [ltE_f,cmpL_anti,show cmpL x.row c.row = 0 by simpa using d2];decide);have k2 : putE l c = l.set p (addE x c) := (by have := putG_at (lt:=ltE) (add:=addE) l c (by rw [hp];exact hpq) (by rw [hp,hnx];exact k1);rw [hp,hnx] at this;exact this);have kz : ∀ y,(l.set p y).take l.length = l.set p y := (fun y => List.take_of_length_le (by simp))
    refine wa_ (wc_draw (y_ (m_ (h:=ax_ (h:=y_ (m_ (h:=ax_ (h:=y_ (m_ (h:=ax_ (h:=y_ (m_ (h:=ax_ (h:=y_ (x_ (h:=ax_ (h:=y_ (f_ (h:=ax_ (h:=y_ (l_ (h:=ax_ (h:=y_ (f_ (h:=ax_ (h:=y_ (l_ (h:=ax_ (h:=y_ (b_ (h:=ax_ (h:=?_))))))))))))))))))))))))))))))))
    refine y_ (x_ (h:=ax_ (h:=y_ (f_ (h:=ax_ (h:=y0 (s_ (h:=ax_ (h:=wo_nil (ed (h:=aft_normal (wa_ (wc_region (w_ (m_ (h:=w_ (a_ (h:=wo_nil (e_ (h:=aft_normal (wc_ret (?_))))))))))))))))))))))
    )
  )
 all_goals first
 | refine aft_ret ?_
 | (
  refine aft_normal ?_
  refine wa_ (wc_draw (y_ (bs (h:=ax_ (h:=y_ (m_ (h:=ax_ (h:=y_ (m_ (h:=ax_ (h:=y_ (sl (h:=ax_ (h:=y_ (?_)))))))))))))))
  refine ap (hel2:=if_pos (by first | omega | (simp;omega))) (h:=?_)
  refine ax_ (h:=y_ (f_ (h:=ax_ (h:=y_ (l_ (h:=ax_ (h:=y_ (ca (hc:=e_l2Row c.row hroc) (h:=ax_ (h:=y_ (f_ (h:=ax_ (h:=y_ (l_ (h:=ax_ (h:=y_ (bd (h:=ax_ (h:=y_ (bs (h:=ax_ (h:=y_ (ap (h:=ax_ (h:=y_ (m_ (h:=ax_ (h:=y_ (m_ (h:=ax_ (h:=y_ (?_))))))))))))))))))))))))))))))))
  first | refine sl (v:=.ref 0 p (l.length - p)) (hv:=cut_tailQ rfl (by omega) (by omega) rfl rfl) (h:=?_) | refine sl (v:=.lst false 0 []) (hv:=cut_end rfl (by omega) (by omega)) (h:=?_) | refine sl (v:=.ref 0 0 l.length) (hv:=cut_zero rfl (by omega)) (h:=?_)
  refine ax_ (h:=y_ (?_))
  first | refine ap (hel:=by (simp [kmd];rfl)) (hel2:=if_pos (by first | omega | (simp;omega))) (h:=?_) | refine ap (hel:=by (simp [moveL_0,hp0];rfl)) (h:=?_) | refine ap (h:=?_)
  refine ax_ (h:=y_ (a_ (h:=ax_ (h:=wo_nil (ed (h:=aft_normal (wc_ret (?_))))))))
  )
 all_goals (refine fin_ (hr:=(res_tmp rfl res_nil)) (h:=?_);(focus (first | (simp [k2,erT_set,kz,addE,Er.e,lz];done) | (rw [k2,erT_app,erT_app,erT_one];simp [km,kl,kq,k9,hp0,kA,kB,kC,kD,kE,kF,Er.e,Et.v,lz];done))))
theorem l_l2s (z : List Er) (hz : z.length < 1800000) : ∀ x : Nat × (List Er),(x.1 ≤ z.length ∧ x.2.length ≤ x.1) → ∀ s,normE 1 (some [0,4,5]) s = ⟨[(0,.lst false 0 (ers z)),(4,.ref 1 0 x.2.length),(5,.int .i64 x.1)],[(1,⟨false,false,2,erT x.2,0⟩)],2⟩ →
 oc.loop 91 3 s = some (.exit 0,⟨[(4,.ref 1 0 ((z.drop x.1).foldl putE x.2).length)],[(1,⟨false,false,2,erT ((z.drop x.1).foldl putE x.2),0⟩)],2⟩) := by
 refine loop_ind (σ:=Nat × (List Er)) (fun x => z.length - x.1) _ (fun x => ⟨[(0,.lst false 0 (ers z)),(4,.ref 1 0 x.2.length),(5,.int .i64 x.1)],[(1,⟨false,false,2,erT x.2,0⟩)],2⟩) _ ?_
 rintro ⟨i,q⟩ hi ih s hs
 simp only at hi
 refine loop_s cd91 rfl rfl hs ?_
 obtain ⟨hi1,hi2⟩ := hi
 refine wa_ (wa_ (wc_region (w_ (m_ (h:=w_ (m_ (h:=w_ (le (h:=w_ (b_ (h:=wo_nil (e_ (h:=aft_normal (?_))))))))))))))
 refine c_ (h1:=?_) (h2:=?_)
 rotate_right 1
 focus
  intro c1
  first
  | exact dn c1
  | (
   have d1 := c1;try simp at d1
   refine wc_exit (?_)
   )
 rotate_right 1
 focus
  intro c1
  first
  | exact dn c1
  | (
   have d1 := c1;try simp at d1
   have hj : i < z.length := (by simp at c1;omega);have hw := wrap_succ (i:=i) (by omega);obtain ⟨c,hx,e1,g1⟩ := ers_cut (l:=z) (i:=i) (by omega);have hpl := putG_len (lt:=ltE) (add:=addE) q c;change (putE q c).length ≤ _ at hpl
   refine wc_skip (?_)
   )
 all_goals first
 | refine aft_exit ?_
 | (
  refine aft_normal ?_
  refine wa_ (wc_block (wc_region (w_ (m_ (h:=w_ (m_ (h:=w_ (m_ (h:=w_ (x_ (h:=w_ (l_ (h:=w_ (?_))))))))))))))
  refine caU (hc:=e_l2Put q c (by omega)) (h:=?_)
  refine w_ (a_ (h:=wo_nil (e_ (h:=blk_normal (aft_normal (wc_region (w_ (m_ (h:=w_ (b_ (h:=w_ (a_ (h:=wo_nil (e_ (h:=?_)))))))))))))))
  )
 all_goals first
 | (apply end_leaf (ex:=(Ext.exit 0)) 1 (some [4]);(focus (simp [normE];rfl));(focus (rw [List.drop_eq_nil_of_le (by simp at c1;omega)];rfl)))
 | (refine (ih ((i + 1,putE q c)) (⟨by simp only;omega,by simp only;omega⟩) ?_ _ ?_).trans ?_;(focus (first | omega | (simp;done) | (simp;omega)));(focus (simp [normE,hw];done));(focus (rw [e1];rfl)))
def fltE : List Er → List Er → Bool × List Er
  | [],o => (false,o)
  | c :: r,o => if badE c = true then (true,o) else if c.w = 0 then fltE r o else fltE r (o ++ [c])
theorem fltE_b {c : Er} {r o : List Er} (h : badE c = true) : fltE (c :: r) o = (true,o) := by rw [fltE,if_pos h]
theorem fltE_z {c : Er} {r o : List Er} (h : badE c = false) (h0 : c.w = 0) : fltE (c :: r) o = fltE r o := by rw [fltE,if_neg (by simp [h]),if_pos h0]
theorem fltE_n {c : Er} {r o : List Er} (h : badE c = false) (h0 : ¬ c.w = 0) : fltE (c :: r) o = fltE r (o ++ [c]) := by rw [fltE,if_neg (by simp [h]),if_neg h0]
theorem fltE_eq : ∀ (t o : List Er),(fltE t o).1 = t.any badE ∧ (t.any badE = false → (fltE t o).2 = o ++ t.filter isUE)
  | [],o => by simp [fltE]
  | c :: t,o => by
    rw [List.any_cons,List.filter_cons]
    by_cases h : badE c = true
    · rw [fltE_b h];simp [h]
    · have hb : badE c = false := by simpa using h
      by_cases h0 : c.w = 0
      · rw [fltE_z hb h0,hb,if_neg (by simp [isUE,h0])];simpa using fltE_eq t o
      · rw [fltE_n hb h0,hb,if_pos (by simp [isUE,h0])];simpa using fltE_eq t (o ++ [c])
theorem erT_snoc (o : List Er) (x : Er) : erT o ++ [V.agg [.lst true 1 (ints x.row),.int .i64 x.w]] = erT (o ++ [x]) := by rw [erT_app,erT_one]
theorem l_l2f (q : List Er) (hq : q.length < 2000000) : ∀ x : Nat × (List V) × (List Er),(x.1 ≤ q.length ∧ x.2.1.length = q.length ∧ x.2.1.drop x.1 = erT (q.drop x.1) ∧ x.2.2.length ≤ x.1) → ∀ s,normE 1 (some [4,6,7]) s = ⟨[(4,.ref 1 0 q.length),(6,.ref 2 0 x.2.2.length),(7,.int .i64 x.1)],[(1,⟨false,false,2,x.2.1,0⟩),(2,⟨false,false,2,erT x.2.2,0⟩)],3⟩ →
 oc.loop 91 8 s = some (if (fltE (q.drop x.1) x.2.2).1 = true then (.ret,⟨[(2,.lst true 2 []),(3,.int .i64 8),(6,.ref 1 0 (fltE (q.drop x.1) x.2.2).2.length)],[(1,⟨false,false,2,erT (fltE (q.drop x.1) x.2.2).2,0⟩)],2⟩) else (.exit 2,⟨[(6,.ref 1 0 (fltE (q.drop x.1) x.2.2).2.length)],[(1,⟨false,false,2,erT (fltE (q.drop x.1) x.2.2).2,0⟩)],2⟩)) := by
 refine loop_ind (σ:=Nat × (List V) × (List Er)) (fun x => q.length - x.1) _ (fun x => ⟨[(4,.ref 1 0 q.length),(6,.ref 2 0 x.2.2.length),(7,.int .i64 x.1)],[(1,⟨false,false,2,x.2.1,0⟩),(2,⟨false,false,2,erT x.2.2,0⟩)],3⟩) _ ?_
 rintro ⟨i,R,o⟩ hi ih s hs
 simp only at hi
 refine loop_s cd91 rfl rfl hs ?_
 obtain ⟨hi1,hi2,hi3,hi4⟩ := hi
 refine wa_ (wa_ (wc_region (w_ (m_ (h:=w_ (m_ (h:=w_ (le (h:=w_ (b_ (h:=wo_nil (e_ (h:=aft_normal (?_))))))))))))))
 refine c_ (h1:=?_) (h2:=?_)
 rotate_right 1
 focus
  intro c1
  first
  | exact dn c1
  | (
   have d1 := c1;try simp at d1
   refine wc_exit (?_)
   )
 rotate_right 1
 focus
  intro c1
  first
  | exact dn c1
  | (
   have d1 := c1;try simp at d1
   have hj : i < q.length := (by simp at c1;omega);have hw := wrap_succ (i:=i) (by omega);obtain ⟨x,hnx,e1,_⟩ := erT_get hj;have g1 : R[i]? = some (V.agg [.lst true 1 (ints x.row),.int .i64 x.w]) := (by have := congrArg (fun r => r[0]?) hi3;rw [e1] at this;simpa [erT,ets,Et.v,Er.e,lz] using this);have e2 : R.drop (i + 1) = erT (q.drop (i + 1)) := (by have := congrArg (List.drop 1) hi3;rw [e1,erT_cons] at this;simpa using this);have hmt := erT_snoc o x
   refine wc_skip (?_)
   )
 all_goals first
 | refine aft_exit ?_
 | (
  refine aft_normal ?_
  refine wa_ (wc_block (wa_ (wa_ (wc_region (w_ (m_ (h:=w_ (m_ (h:=w_ (x_ (h:=w_ (f_ (h:=w_ (l_ (h:=w_ (ca (hc:=e_l1Weight _) (h:=w_ (u_ (h:=?_)))))))))))))))))))
  refine wo_nil (e_ (h:=aft_normal (?_)))
  refine c_ (h1:=?_) (h2:=?_)
  rotate_right 1
  focus
   intro c2
   first
   | exact dn c2
   | (
    have d2 := c2;try simp at d2
    refine wc_skip (?_)
    )
  rotate_right 1
  focus
   intro c2
   first
   | exact dn c2
   | (
    have d2 := c2;try simp at d2
    refine wa_ (wc_region (w_ (aN (h:=w_ (a_ (h:=wo_nil (e_ (h:=aft_normal (wc_ret (?_))))))))))
    )
  all_goals first
  | refine aft_ret ?_
  | (
   refine aft_normal ?_
   refine wa_ (wc_region (w_ (m_ (h:=w_ (m_ (h:=w_ (x_ (h:=w_ (f_ (h:=w_ (l_ (h:=w_ (bE (h:=wo_nil (e_ (h:=aft_normal (?_)))))))))))))))))
   refine c_ (h1:=?_) (h2:=?_)
   rotate_right 1
   focus
    intro c3
    first
    | exact dn c3
    | (
     have d3 := c3;try simp at d3
     refine wc_skip (?_)
     )
   rotate_right 1
   focus
    intro c3
    first
    | exact dn c3
    | (
     have d3 := c3;try simp at d3
     refine wc_region (w_ (m_ (h:=w_ (m_ (h:=w_ (m_ (h:=w_ (x_ (h:=w_ (l_ (h:=w_ (?_))))))))))))
     refine bs (hf:=fzL_mvE (fz_mvE rfl rfl g1 (by simp))) (h:=?_)
     refine w_ (ap (h:=w_ (a_ (h:=wo_nil (e_ (h:=?_))))))
     )
   )
  all_goals first | refine blk_normal ?_ | refine blk_ret ?_
  all_goals first
  | refine aft_ret ?_
  | (
   refine aft_normal ?_
   refine wc_region (w_ (m_ (h:=w_ (b_ (h:=w_ (a_ (h:=wo_nil (e_ (h:=?_)))))))))
   )
  )
 all_goals first
 | (apply end_leaf (ex:=(Ext.exit 2)) 1 (some [2,3,6]);(focus (simp [normE];rfl));(focus (rw [List.drop_eq_nil_of_le (by simp at c1;omega)];rfl)))
 | (apply end_leaf (ex:=Ext.ret) 1 (some [2,3,6]);(focus (simp [normE];rfl));(focus (rw [e1,fltE_b (by simpa [badE] using d2)];rfl)))
 | (refine (ih ((i + 1,R,o)) (⟨by simp only;omega,hi2,e2,by simp only;omega⟩) ?_ _ ?_).trans ?_;(focus (first | omega | (simp;done) | (simp;omega)));(focus (simp [normE,hw];done));(focus (rw [e1,fltE_z (by simpa [badE] using d2) (by simpa using d3)])))
 | (refine (ih ((i + 1,R.set i (.agg [.und,.int .i64 x.w]),o ++ [x])) (⟨by simp only;omega,by simpa using hi2,by simp only;rw [List.drop_set_of_lt (by omega)];exact e2,by simp;omega⟩) ?_ _ ?_).trans ?_;(focus (first | omega | (simp;done) | (simp;omega)));(focus (simp [normE,hw,hmt];done));(focus (rw [e1,fltE_n (by simpa [badE] using d2) (by simpa using d3)])))
theorem e_l2Set (z : List Er) (hz : z.length < 1800000) : oc.call 91 [.lst false 0 (ers z)] = some (.tup [.lst true 2 (erT (sumA (z.foldl putE [])).1),.int .i64 (sumA (z.foldl putE [])).2],[]) := by
 refine fun_s rfl cd91 rfl rfl rfl (by simp;rfl) (by simp;rfl) ?_
 obtain ⟨T,hT⟩ : ∃ T,z.foldl putE [] = T := ⟨_,rfl⟩
 have hTl : T.length < 1900000 := by have h2 := foldG_len (lt:=ltE) (add:=addE) (S:=z) (acc:=[]);change (z.foldl putE []).length ≤ _ at h2;rw [hT] at h2;simp at h2;omega
 have hl3 := l_l2s z hz (0,[]) ⟨by simp,by simp⟩
 have hl8 := l_l2f T (by omega) (0,erT T,[]) ⟨by simp,by simp,by simp,by simp⟩
 simp only [List.drop_zero,hT] at hl3 hl8
 obtain ⟨b,O,hbo⟩ : ∃ b O,fltE T [] = (b,O) := ⟨_,_,rfl⟩
 obtain ⟨q1,q2⟩ := fltE_eq T []
 rw [hbo] at hl8 q1 q2
 simp only [List.nil_append] at hl8 q1 q2
 have ha : sumA T = if b = true then ([],8) else if 200 < O.length then ([],2) else (O,0) := by cases b with | true => (unfold sumA;rw [← q1];try rfl) | false => (unfold sumA;rw [← q1,q2 q1.symm];try rfl)
 clear q1 q2 hbo
 refine wa_ (wc_region (w_ (aN (h:=w_ (a_ (h:=wo_nil (e_ (h:=aft_normal (wa_ (wc_region (w_ (bs (h:=w_ (a_ (h:=wo_nil (e_ (h:=aft_normal (?_))))))))))))))))))
 refine wa_ (wa_ (wc_region (w_ (a_ (h:=wo_nil (e_ (h:=aft_normal (wc_block (?_)))))))))
 refine wc_loop (hl3 _ (by simp [normE])) ?_
 refine blk_exit (aft_normal (wa_ (wc_region (w_ (bs (h:=w_ (a_ (h:=wo_nil (e_ (h:=aft_normal (wa_ (wa_ (wc_region (w_ (a_ (h:=?_))))))))))))))))
 refine wo_nil (e_ (h:=aft_normal (wc_block (?_))))
 refine wc_loopI (hl8 _ (by simp [normE])) ?_ ?_
 rotate_right 1
 focus
  intro c1
  first
  | exact dn c1
  | (
   have d1 := c1;try simp at d1
   skip
   )
 rotate_right 1
 focus
  intro c1
  first
  | exact dn c1
  | (
   have d1 := c1;try simp at d1
   skip
   )
 all_goals first | refine blk_ret ?_ | refine blk_exit ?_
 all_goals first
 | refine aft_ret ?_
 | (
  refine aft_normal ?_
  refine wa_ (wa_ (wc_region (w_ (m_ (h:=w_ (le (h:=w_ (b_ (h:=wo_nil (e_ (h:=aft_normal (?_))))))))))))
  refine c_ (h1:=?_) (h2:=?_)
  rotate_right 1
  focus
   intro c2
   first
   | exact dn c2
   | (
    have d2 := c2;try simp at d2
    refine wc_skip (?_)
    )
  rotate_right 1
  focus
   intro c2
   first
   | exact dn c2
   | (
    have d2 := c2;try simp at d2
    refine wa_ (wc_region (w_ (aN (h:=w_ (a_ (h:=wo_nil (e_ (h:=aft_normal (wc_ret (?_))))))))))
    )
  all_goals first
  | refine aft_ret ?_
  | (
   refine aft_normal ?_
   refine wa_ (wc_region (w_ (m_ (h:=w_ (a_ (h:=w_ (a_ (h:=wo_nil (e_ (h:=aft_normal (wc_ret (?_))))))))))))
   )
  )
 all_goals (refine fin_ (hr:=(res_tmp rfl (res_tmp rfl res_nil))) (h:=?_);(focus (rw [hT,ha];first | (simp [*];done) | (rw [if_neg (by simp [*]),if_pos (by first | assumption | omega | (simp at *;omega))];simp;done) | (rw [if_neg (by simp [*]),if_neg (by first | assumption | omega | (simp at *;omega))];simp;done))))
def ltT (a b : Et) : Bool := decide (cmpL a.row b.row < 0)
def addT (x c : Et) : Et := ⟨x.row,IntKind.i64.wrap (x.w + c.w)⟩
abbrev putT : List Et → Et → List Et := putG ltT addT
def badT (d : Et) : Bool := !inI d.w (-1000000000000) 1000000000000
def isUT (d : Et) : Bool := decide (¬ d.w = 0)
def sumB (t : List Et) : List Et × Int := if t.any badT = true then ([],8) else if 200 < (t.filter isUT).length then ([],2) else (t.filter isUT,0)
def sumZ (z : List Et) : List Et × Int := sumB (z.foldl putT [])
instance : Inhabited Et := ⟨⟨[],0⟩⟩
theorem ltT_e (a b : Er) : ltT a.e b.e = ltE a b := rfl
theorem putT_e : ∀ (l : List Er) (c : Er),(putE l c).map Er.e = putT (l.map Er.e) c.e
  | [],c => rfl
  | x :: r,c => by
    show (putG ltE addE (x :: r) c).map Er.e = putG ltT addT (x.e :: r.map Er.e) c.e
    rw [putG_cons,putG_cons,ltT_e,ltT_e]
    split
    · rw [List.map_cons];rw [show (putG ltE addE r c).map Er.e = _ from putT_e r c]
    · split <;> rfl
theorem foldT_e : ∀ (z l : List Er),(z.foldl putE l).map Er.e = (z.map Er.e).foldl putT (l.map Er.e)
  | [],_ => rfl
  | c :: z,l => by rw [List.foldl_cons,foldT_e z,putT_e];rfl
theorem sumB_e (t : List Er) : (sumA t).1.map Er.e = (sumB (t.map Er.e)).1 ∧ (sumA t).2 = (sumB (t.map Er.e)).2 := by
  have h1 : (t.map Er.e).any badT = t.any badE := by rw [List.any_map];rfl
  have h2 : (t.map Er.e).filter isUT = (t.filter isUE).map Er.e := by rw [List.filter_map];rfl
  unfold sumA sumB
  rw [h1,h2,List.length_map]
  split
  · exact ⟨rfl,rfl⟩
  · split <;> exact ⟨rfl,rfl⟩
theorem sumZ_e {r : List Er} : (sumA (r.foldl putE [])).1.map Er.e = (sumZ (r.map Er.e)).1 ∧ (sumA (r.foldl putE [])).2 = (sumZ (r.map Er.e)).2 := by
  have h := sumB_e (r.foldl putE [])
  rw [foldT_e] at h
  exact h
theorem e_sumI (z : List Et) (hl : z.length < 900000) (hr : ∀ x ∈ z,x.row.length < 2000000) (hn : ∀ x ∈ z,IntKind.i64.wrap x.w = x.w) : oc.call 93 [.lst false 0 (ets false z)] = some (.tup [.lst true 2 (ets true (sumZ z).1),.int .i64 (sumZ z).2],[]) := by
  obtain ⟨r,rfl⟩ := ers_of hr
  obtain ⟨h1,h2⟩ := sumZ_e (r:=r)
  have := e_summed r (by simp at hl;omega) (fun x hx => hn x.e (List.mem_map_of_mem hx))
  rw [← h1,← h2]
  exact this
theorem e_sumS (z : List Et) (hl : z.length < 1800000) (hr : ∀ x ∈ z,x.row.length < 2000000) : oc.call 91 [.lst false 0 (ets false z)] = some (.tup [.lst true 2 (ets true (sumZ z).1),.int .i64 (sumZ z).2],[]) := by
  obtain ⟨r,rfl⟩ := ers_of hr
  obtain ⟨h1,h2⟩ := sumZ_e (r:=r)
  have := e_l2Set r (by simp at hl;omega)
  rw [← h1,← h2]
  exact this
theorem setR_ok : ∀ {l : List Et} {p : Option Et},setR p l = 0 → (∀ x ∈ l,rowF x.row = 0 ∧ wOk x.w = true ∧ x.w ≠ 0) ∧ (match p with | some q => (q :: l).Pairwise (fun x y => ltT x y = true) | none => l.Pairwise (fun x y => ltT x y = true))
  | [],p,_ => by refine ⟨fun x hx => (by cases hx),?_⟩;cases p <;> simp
  | c :: r,p,h => by
    by_cases h0 : rowF c.row = 0
    · by_cases h1 : wOk c.w = false ∨ c.w = 0
      · rw [setR_3 h0 h1] at h;cases h
      · by_cases h2 : (p.elim false fun q => decide (0 ≤ cmpL q.row c.row)) = true
        · rw [setR_1 h0 h1 h2] at h;cases h
        · rw [setR_0 h0 h1 h2] at h
          obtain ⟨a,b⟩ := setR_ok h
          simp only at b
          have hc : wOk c.w = true := by
            cases e : wOk c.w
            · exact absurd (.inl e) h1
            · rfl
          refine ⟨fun x hx => ?_,?_⟩
          · rcases List.mem_cons.1 hx with rfl | hx
            · exact ⟨h0,hc,fun e => h1 (.inr e)⟩
            · exact a x hx
          · cases p with
            | none => exact b
            | some q =>
              simp only [Option.elim] at h2
              have hq : ltT q c = true := by simp [ltT];simpa using h2
              refine List.pairwise_cons.2 ⟨fun y hy => ?_,b⟩
              rcases List.mem_cons.1 hy with rfl | hy
              · exact hq
              · have h3 := (List.pairwise_cons.1 b).1 y hy
                simp only [ltT,decide_eq_true_eq] at *
                have h4 := cmpL_anti q.row y.row
                have h5 := cmpL_anti c.row y.row
                have h6 := cmpL_anti q.row c.row
                by_cases h7 : cmpL q.row y.row < 0
                · exact h7
                · have := cmpL_tr (z:=c.row) (y:=q.row) (x:=y.row) (by omega) (by omega)
                  omega
    · rw [setR_row h0] at h;exact absurd h h0
theorem setC_ok {z : List Et} (h : setC z = 0) : z.length ≤ 200 ∧ (∀ x ∈ z,rowF x.row = 0 ∧ wOk x.w = true ∧ x.w ≠ 0) ∧ z.Pairwise (fun x y => ltT x y = true) := by
  unfold setC at h
  split at h
  · cases h
  · exact ⟨by omega,setR_ok (p:=none) h⟩
theorem wOk_w {w : Int} (h : wOk w = true) : IntKind.i64.wrap w = w := by
  simp [wOk,inI] at h
  exact wrap_id (by omega) (by omega)
theorem putT_mem {P : Et → Prop} (ha : ∀ x c,P x → P c → P (addT x c)) {z : List Et} (h : ∀ x ∈ z,P x) : ∀ x ∈ z.foldl putT [],P x :=
  foldG_mem (lt:=ltT) (add:=addT) ha (S:=z) (acc:=[]) (fun x hx => by cases hx) h
theorem sumZ_ok {z : List Et} {n : Nat} (h : ∀ x ∈ z,x.row.length ≤ n) : (sumZ z).1.length ≤ 200 ∧ ∀ x ∈ (sumZ z).1,x.row.length ≤ n := by
  have hm := putT_mem (P:=fun x => x.row.length ≤ n) (fun x c hx _ => hx) h
  unfold sumZ sumB
  split
  · exact ⟨by simp,fun x hx => by cases hx⟩
  · split
    · exact ⟨by simp,fun x hx => by cases hx⟩
    · exact ⟨by simp only;omega,fun x hx => hm x ((List.mem_filter.1 hx).1)⟩
end Go.Proofs.Ytgkbmiaimjpbfaa.Ev
namespace Go.Proofs.Ytgkbmiaimjpbfaa.Ev
open Go
set_option maxRecDepth 100000
set_option linter.unusedSimpArgs false
set_option linter.unusedVariables false
set_option maxHeartbeats 2000000
abbrev etZ : V := .agg [.lst true 1 [],.int .i64 0]
theorem grow_posT (e : List (Nat × V)) (o : List (Nat × Ob)) (k : Int) (hk : 0 < k) (hk2 : k < 2000000) : oc.call.i 180 [.emp true,.int .i64 k] ⟨e,o,33⟩ 33 = some (.ref 609 0 0,⟨e,(609,⟨false,false,2,List.replicate k.toNat etZ,0⟩) :: o,833⟩) := by
 have h0 : IntKind.i64.wrap (0 - 0) = 0 := by decide
 have hw : IntKind.i64.wrap (k - IntKind.i64.wrap (0 - 0)) = k := by rw [h0,Int.sub_zero];exact wrap_id (by omega) (by omega)
 apply inl_s (by rw [cf_pl];rfl) cd180 rfl rfl (by simp;rfl)
 refine wa_ (wc_region (w_ (aN (h:=wo_nil (e_ (h:=aft_normal (wa_ (wa_ (wc_region (w_ (m_ (h:=w_ (b_ (h:=wo_nil (e_ (h:=aft_normal (?_)))))))))))))))))
 refine c_ (h1:=?_) (h2:=?_)
 rotate_right 1
 focus
  intro c1
  first
  | exact dn c1
  | (
   have d1 := c1;try simp at d1
   refine wc_skip (?_)
   )
 rotate_right 1
 focus
  intro c1
  first
  | exact dn c1
  | (
   have d1 := c1;try simp at d1
   exfalso;omega
   )
 all_goals first
 | (
  refine aft_normal ?_
  refine wa_ (wa_ (wc_region (w_ (m_ (h:=w_ (m_ (h:=w_ (cc (h:=w_ (m_ (h:=w_ (le (h:=w_ (b_ (h:=w_ (b_ (h:=w_ (a_ (h:=wo_nil (e_ (h:=?_)))))))))))))))))))))
  refine aft_normal (wa_ (wc_region (w_ (m_ (h:=w_ (b_ (h:=wo_nil (e_ (h:=aft_normal (?_))))))))))
  refine c_ (h1:=?_) (h2:=?_)
  rotate_right 1
  focus
   intro c2
   first
   | exact dn c2
   | (
    have d2 := c2;try simp at d2
    exfalso;rw [hw] at c2;simp at c2;omega
    )
  rotate_right 1
  focus
   intro c2
   first
   | exact dn c2
   | (
    have d2 := c2;try simp at d2
    refine wc_region (w_ (m_ (h:=w_ (m_ (h:=w_ (cc (h:=w_ (sl (h:=w_ (m_ (h:=w_ (?_))))))))))))
    simp only [hw];refine apZ (h:=?_)
    refine w_ (m_ (h:=w_ (le (h:=w_ (sl (h:=w_ (a_ (h:=wo_nil (e_ (h:=?_))))))))))
    )
  all_goals first
  | (
   refine aft_normal ?_
   refine wa_ (wc_region (w_ (m_ (h:=w_ (a_ (h:=wo_nil (e_ (h:=aft_normal (wc_ret (?_))))))))))
   )
  )
 all_goals (exact ⟨by simp,_,rfl,rfl,rfl⟩)
theorem grow_nilT (e : List (Nat × V)) (o : List (Nat × Ob)) : oc.call.i 180 [.emp true,.int .i64 0] ⟨e,o,33⟩ 33 = some (.emp true,⟨e,o,513⟩) := by
 have h0 : IntKind.i64.wrap (0 - 0) = 0 := by decide
 have hw : IntKind.i64.wrap (0 - IntKind.i64.wrap (0 - 0)) = 0 := by rw [h0];decide
 apply inl_s (by rw [cf_pl];rfl) cd180 rfl rfl (by simp;rfl)
 refine wa_ (wc_region (w_ (aN (h:=wo_nil (e_ (h:=aft_normal (wa_ (wa_ (wc_region (w_ (m_ (h:=w_ (b_ (h:=wo_nil (e_ (h:=aft_normal (?_)))))))))))))))))
 refine c_ (h1:=?_) (h2:=?_)
 rotate_right 1
 focus
  intro c1
  first
  | exact dn c1
  | (
   have d1 := c1;try simp at d1
   refine wc_skip (?_)
   )
 rotate_right 1
 focus
  intro c1
  first
  | exact dn c1
  | (
   have d1 := c1;try simp at d1
   exfalso;omega
   )
 all_goals first
 | (
  refine aft_normal ?_
  refine wa_ (wa_ (wc_region (w_ (m_ (h:=w_ (m_ (h:=w_ (cc (h:=w_ (m_ (h:=w_ (le (h:=w_ (b_ (h:=w_ (b_ (h:=w_ (a_ (h:=wo_nil (e_ (h:=?_)))))))))))))))))))))
  refine aft_normal (wa_ (wc_region (w_ (m_ (h:=w_ (b_ (h:=wo_nil (e_ (h:=aft_normal (?_))))))))))
  refine c_ (h1:=?_) (h2:=?_)
  rotate_right 1
  focus
   intro c2
   first
   | exact dn c2
   | (
    have d2 := c2;try simp at d2
    refine wc_skip (?_)
    )
  rotate_right 1
  focus
   intro c2
   first
   | exact dn c2
   | (
    have d2 := c2;try simp at d2
    exfalso;rw [hw] at c2;simp at c2
    )
  all_goals first
  | (
   refine aft_normal ?_
   refine wa_ (wc_region (w_ (m_ (h:=w_ (a_ (h:=wo_nil (e_ (h:=aft_normal (wc_ret (?_))))))))))
   )
  )
 all_goals (exact ⟨by simp,_,rfl,rfl,rfl⟩)
theorem wS_cutLT {α : Type} {f : α → Nat} {l : List α} {i : Nat} {x : α} (h : l[i]? = some x) : wS f (l.take (i + 1)) = wS f (l.take i) + f x := by
  induction l generalizing i with
  | nil => simp at h
  | cons y r ih =>
    cases i with
    | zero => simp at h;subst h;simp
    | succ i => simp at h;simp only [List.take_succ_cons,wS_cons];rw [ih h];omega
theorem wS_takeLT {α : Type} {f : α → Nat} {l : List α} {i : Nat} : wS f (l.take i) ≤ wS f l := by
  induction l generalizing i with
  | nil => simp
  | cons y r ih =>
    cases i with
    | zero => simp
    | succ i => have := ih (i:=i);simp only [List.take_succ_cons,wS_cons];omega
def lenST (l : List (List Et)) : Nat := wS List.length l
theorem lenS_cutT {l : List (List Et)} {i : Nat} {x : List Et} (h : l[i]? = some x) : lenST (l.take (i + 1)) = lenST (l.take i) + x.length := wS_cutLT h
theorem lenS_takeT {l : List (List Et)} {i : Nat} : lenST (l.take i) ≤ lenST l := wS_takeLT
theorem lenS_flatT {l : List (List Et)} : l.flatten.length = lenST l := by
  induction l with
  | nil => rfl
  | cons x r ih => simp only [List.flatten_cons,List.length_append,ih,lenST,wS_cons]
theorem flat_cutT {l : List (List Et)} {i : Nat} {x : List Et} (h : l[i]? = some x) : (l.take (i + 1)).flatten = (l.take i).flatten ++ x := by
  rw [List.take_add_one,h];simp
theorem l_catSzT (ls : List (List Et)) (hl : ls.length < 2000000) (hs0 : lenST ls < 2000000) : ∀ i : Nat,(i ≤ ls.length) → ∀ s,normE 1 (some [0,3,9,10,11]) s = ⟨[(0,.lst false 0 (etss false ls)),(3,.int .i64 (lenST (ls.take i) : Nat)),(9,.lst false 0 (etss false ls)),(10,.int .i64 ls.length),(11,.int .i64 i)],[],1⟩ →
 oc.loop 94 3 s = some (.exit 0,⟨[(0,.lst false 0 (etss false ls)),(3,.int .i64 (lenST ls : Nat))],[],1⟩) := by
 refine loop_ind (σ:=Nat) (fun i => ls.length - i) _ (fun i => ⟨[(0,.lst false 0 (etss false ls)),(3,.int .i64 (lenST (ls.take i) : Nat)),(9,.lst false 0 (etss false ls)),(10,.int .i64 ls.length),(11,.int .i64 i)],[],1⟩) _ ?_
 intro i hi ih s hs
 refine loop_s cd94 rfl rfl hs ?_
 refine wa_ (wc_region (w_ (b_ (h:=wo_nil (e_ (h:=aft_normal (wa_ (?_))))))))
 refine c_ (h1:=?_) (h2:=?_)
 rotate_right 1
 focus
  intro c1
  first
  | exact dn c1
  | (
   have d1 := c1;try simp at d1
   refine wc_exit (?_)
   )
 rotate_right 1
 focus
  intro c1
  first
  | exact dn c1
  | (
   have d1 := c1;try simp at d1
   have hw := wrap_succ (i:=i) (by omega);obtain ⟨c,hx,e1,g1⟩ := etss_cut (t:=false) (l:=ls) (i:=i) (by omega);have hcut := lenS_cutT hx;have hle := lenS_takeT (l:=ls) (i:=i + 1);have hws : IntKind.i64.wrap ((lenST (ls.take i) : Nat) + (c.length : Int)) = (lenST (ls.take (i + 1)) : Nat) := (wrap_id (by omega) (by omega)).trans (by omega)
   refine wc_skip (?_)
   )
 all_goals first
 | refine aft_exit ?_
 | (
  refine aft_normal ?_
  refine wa_ (wc_block (wa_ (wc_region (w_ (x_ (h:=w_ (l_ (h:=w_ (a_ (h:=wo_nil (e_ (h:=aft_normal (wa_ (wc_region (w_ (m_ (h:=?_)))))))))))))))))
  refine w_ (m_ (h:=w_ (le (h:=w_ (b_ (h:=w_ (a_ (h:=wo_nil (e_ (h:=aft_normal (wa_ (wc_region (w_ (m_ (h:=w_ (b_ (h:=wo_nil (e_ (h:=aft_normal (?_))))))))))))))))))))
  refine c_ (h1:=?_) (h2:=?_)
  rotate_right 1
  focus
   intro c2
   first
   | exact dn c2
   | (
    have d2 := c2;try simp at d2
    refine wc_skip (?_)
    )
  rotate_right 1
  focus
   intro c2
   first
   | exact dn c2
   | (
    have d2 := c2;try simp at d2
    exfalso;clear ih hs;omega
    )
  all_goals refine blk_normal ?_
  all_goals first
  | (
   refine aft_normal ?_
   refine wc_region (w_ (b_ (h:=w_ (m_ (h:=wo_nil (e_ (h:=?_)))))))
   )
  )
 all_goals first
 | (refine (ih (i + 1) (by omega) ?_ _ ?_).trans ?_;(focus (first | omega | (simp;done) | (simp;omega)));(focus (simp [normE,hw,hws];done));(focus (rfl)))
 | (apply end_leaf (ex:=(Ext.exit 0)) 1 (some [0,3]);(focus (simp [normE];rfl));(focus (rw [List.take_of_length_le (by omega)])))
theorem l_catT (ls : List (List Et)) (hl : ls.length < 2000000) (hs0 : lenST ls < 2000000) : ∀ i : Nat,(i ≤ ls.length) → ∀ s,normE 1 (some [6,25,26,27]) s = ⟨[(6,.ref 1 0 (lenST (ls.take i))),(25,.lst false 0 (etss false ls)),(26,.int .i64 ls.length),(27,.int .i64 i)],[(1,⟨false,false,2,ets false (ls.take i).flatten,0⟩)],2⟩ →
 oc.loop 94 11 s = some (.exit 2,⟨[(6,.ref 1 0 (lenST ls))],[(1,⟨false,false,2,ets false ls.flatten,0⟩)],2⟩) := by
 refine loop_ind (σ:=Nat) (fun i => ls.length - i) _ (fun i => ⟨[(6,.ref 1 0 (lenST (ls.take i))),(25,.lst false 0 (etss false ls)),(26,.int .i64 ls.length),(27,.int .i64 i)],[(1,⟨false,false,2,ets false (ls.take i).flatten,0⟩)],2⟩) _ ?_
 intro i hi ih s hs
 refine loop_s cd94 rfl rfl hs ?_
 have hT := lenS_takeT (l:=ls) (i:=i)
 generalize hF : (ls.take i).flatten = F
 have hN : lenST (ls.take i) = F.length := by rw [← hF];exact lenS_flatT.symm
 rw [hN] at hT ⊢
 refine wa_ (wc_region (w_ (b_ (h:=wo_nil (e_ (h:=aft_normal (wa_ (?_))))))))
 refine c_ (h1:=?_) (h2:=?_)
 rotate_right 1
 focus
  intro c1
  first
  | exact dn c1
  | (
   have d1 := c1;try simp at d1
   refine wc_exit (?_)
   )
 rotate_right 1
 focus
  intro c1
  first
  | exact dn c1
  | (
   have d1 := c1;try simp at d1
   have hw := wrap_succ (i:=i) (by omega);obtain ⟨c,hx,e1,g1⟩ := etss_cut (t:=false) (l:=ls) (i:=i) (by omega);have hcut := lenS_cutT hx;rw [hN] at hcut;have hle := lenS_takeT (l:=ls) (i:=i + 1);have hfl := flat_cutT hx;rw [hF] at hfl
   refine wc_skip (?_)
   )
 all_goals first
 | refine aft_exit ?_
 | (
  refine aft_normal ?_
  refine wa_ (wc_block (wa_ (wc_region (w_ (x_ (h:=w_ (l_ (h:=w_ (a_ (h:=wo_nil (e_ (h:=aft_normal (wc_region (w_ (m_ (h:=w_ (m_ (h:=?_))))))))))))))))))
  refine w_ (ap (h:=w_ (a_ (h:=wo_nil (e_ (h:=blk_normal (aft_normal (wc_region (w_ (b_ (h:=w_ (m_ (h:=wo_nil (e_ (h:=?_)))))))))))))))
  )
 all_goals first
 | (refine (ih (i + 1) (by omega) ?_ _ ?_).trans ?_;(focus (first | omega | (simp;done) | (simp;omega)));(focus (simp [normE,hw,hcut,hfl];done));(focus (rfl)))
 | (apply end_leaf (ex:=(Ext.exit 2)) 1 (some [6]);(focus (simp [normE];rfl));(focus (rw [List.take_of_length_le (by omega)] at hF hN;subst hF;simp [hN])))
theorem cat_nilT (ls : List (List Et)) (hl : ls.length < 2000000) (hs0 : lenST ls < 2000000) (hne : 0 < ls.length) (L : List Et) (hL : ls.flatten = L) : ∀ s,normE 1 (some [6,25,26,27]) s = ⟨[(6,.emp true),(25,.lst false 0 (etss false ls)),(26,.int .i64 ls.length),(27,.int .i64 0)],[],1⟩ → oc.loop 94 11 s = some (.exit 2,⟨[(6,.ref 1 0 L.length)],[(1,⟨false,false,2,ets false L,0⟩)],2⟩) := by
 intro s hs
 obtain ⟨c,hx,e1,g1⟩ := etss_cut (t:=false) (l:=ls) (i:=0) hne
 change (etss false ls)[(0 : Int).toNat]? = _ at g1
 have hcut := lenS_cutT hx
 have hfl := flat_cutT hx
 have hle := lenS_takeT (l:=ls) (i:=0 + 1)
 have hw : IntKind.i64.wrap (0 + 1) = 1 := by decide
 have hw1 : IntKind.i64.wrap 1 = 1 := by decide
 have hcl : c.length < 2000000 := by omega
 simp [lenST] at hcut hfl
 refine loop_s cd94 rfl rfl hs ?_
 refine wa_ (wc_region (w_ (b_ (h:=wo_nil (e_ (h:=aft_normal (wa_ (?_))))))))
 refine c_ (h1:=?_) (h2:=?_)
 rotate_right 1
 focus
  intro c1
  first
  | exact dn c1
  | (
   have d1 := c1;try simp at d1
   exfalso;rw [decide_eq_false_iff_not] at c1;omega
   )
 rotate_right 1
 focus
  intro c1
  first
  | exact dn c1
  | (
   have d1 := c1;try simp at d1
   refine wc_skip (?_)
   )
 all_goals first
 | refine aft_exit ?_
 | (
  refine aft_normal ?_
  refine wa_ (wc_block (wa_ (wc_region (w_ (x_ (h:=w_ (l_ (h:=w_ (a_ (h:=wo_nil (e_ (h:=aft_normal (wc_region (w_ (m_ (h:=w_ (m_ (h:=?_))))))))))))))))))
  refine w_ (ap (h:=w_ (a_ (h:=wo_nil (e_ (h:=blk_normal (aft_normal (wc_region (w_ (b_ (h:=w_ (m_ (h:=wo_nil (e_ (h:=?_)))))))))))))))
  )
 all_goals (refine (l_catT ls hl hs0 1 (by omega) _ ?_).trans (by rw [← lenS_flatT,hL]);(simp [normE,hw,hw1,lenST,hcut,hfl];done))
theorem cat_posT (ls : List (List Et)) (k : Nat) (hl : ls.length < 2000000) (hs0 : lenST ls < 2000000) (hne : 0 < ls.length) (L : List Et) (hL : ls.flatten = L) : ∀ s,normE 1 (some [6,25,26,27]) s = ⟨[(6,.ref 1 0 0),(25,.lst false 0 (etss false ls)),(26,.int .i64 ls.length),(27,.int .i64 0)],[(1,⟨false,false,2,List.replicate k etZ,0⟩)],2⟩ → oc.loop 94 11 s = some (.exit 2,⟨[(6,.ref 1 0 L.length)],[(1,⟨false,false,2,ets false L,0⟩)],2⟩) := by
 intro s hs
 obtain ⟨c,hx,e1,g1⟩ := etss_cut (t:=false) (l:=ls) (i:=0) hne
 change (etss false ls)[(0 : Int).toNat]? = _ at g1
 have hcut := lenS_cutT hx
 have hfl := flat_cutT hx
 have hle := lenS_takeT (l:=ls) (i:=0 + 1)
 have hw : IntKind.i64.wrap (0 + 1) = 1 := by decide
 have hw1 : IntKind.i64.wrap 1 = 1 := by decide
 have hcl : c.length < 2000000 := by omega
 simp [lenST] at hcut hfl
 refine loop_s cd94 rfl rfl hs ?_
 refine wa_ (wc_region (w_ (b_ (h:=wo_nil (e_ (h:=aft_normal (wa_ (?_))))))))
 refine c_ (h1:=?_) (h2:=?_)
 rotate_right 1
 focus
  intro c1
  first
  | exact dn c1
  | (
   have d1 := c1;try simp at d1
   exfalso;rw [decide_eq_false_iff_not] at c1;omega
   )
 rotate_right 1
 focus
  intro c1
  first
  | exact dn c1
  | (
   have d1 := c1;try simp at d1
   refine wc_skip (?_)
   )
 all_goals first
 | refine aft_exit ?_
 | (
  refine aft_normal ?_
  refine wa_ (wc_block (wa_ (wc_region (w_ (x_ (h:=w_ (l_ (h:=w_ (a_ (h:=wo_nil (e_ (h:=aft_normal (wc_region (w_ (m_ (h:=w_ (m_ (h:=?_))))))))))))))))))
  refine w_ (ap (h:=w_ (a_ (h:=wo_nil (e_ (h:=blk_normal (aft_normal (wc_region (w_ (b_ (h:=w_ (m_ (h:=wo_nil (e_ (h:=?_)))))))))))))))
  )
 all_goals (refine (l_catT ls hl hs0 1 (by omega) _ ?_).trans (by rw [← lenS_flatT,hL]);(simp [normE,hw,hw1,lenST,hcut,hfl];done))
theorem e_catT (ls : List (List Et)) (hl : ls.length < 2000000) (hs0 : lenST ls < 2000000) (hne : 0 < ls.length) : oc.call 94 [.lst false 0 (etss false ls)] = some (.lst true 2 (ets false ls.flatten),[]) := by
  obtain ⟨L,hL⟩ : ∃ L,ls.flatten = L := ⟨_,rfl⟩
  rw [hL]
  rcases Nat.eq_zero_or_pos (lenST ls) with hz | hz
  · refine fun_s rfl cd94 rfl rfl rfl (by simp;rfl) (by simp;rfl) ?_
    refine wa_ (wc_region (w_ (aN (h:=wo_nil (e_ (h:=aft_normal (wa_ (wc_region (w_ (a_ (h:=wo_nil (e_ (h:=aft_normal (wa_ (wa_ (?_))))))))))))))))
    refine wc_region (w_ (m_ (h:=w_ (le (h:=w_ (m_ (h:=wo_nil (e_ (h:=aft_normal (wc_block (?_)))))))))))
    refine wc_loop (l_catSzT ls hl hs0 0 (by omega) _ (by simp [normE,lenST])) ?_
    refine blk_exit (aft_normal (wa_ (wc_region (w_ (m_ (h:=?_))))))
    first | refine i_ (hc:=(by simp only [hz];exact grow_nilT _ _)) (h:=?_)
    refine w_ (a_ (h:=wo_nil (e_ (h:=aft_normal (wa_ (wa_ (wc_region (w_ (m_ (h:=w_ (le (h:=w_ (m_ (h:=wo_nil (e_ (h:=aft_normal (wc_block (?_))))))))))))))))))
    refine wc_loop (cat_nilT ls hl hs0 hne L hL _ (by simp [normE])) ?_
    refine blk_exit (aft_normal (wa_ (wc_region (w_ (m_ (h:=w_ (a_ (h:=wo_nil (e_ (h:=aft_normal (wc_ret (?_))))))))))))
    all_goals (refine fin_ (hr:=(res_tmp rfl res_nil)) (h:=?_);(focus (simp)))
  · refine fun_s rfl cd94 rfl rfl rfl (by simp;rfl) (by simp;rfl) ?_
    refine wa_ (wc_region (w_ (aN (h:=wo_nil (e_ (h:=aft_normal (wa_ (wc_region (w_ (a_ (h:=wo_nil (e_ (h:=aft_normal (wa_ (wa_ (?_))))))))))))))))
    refine wc_region (w_ (m_ (h:=w_ (le (h:=w_ (m_ (h:=wo_nil (e_ (h:=aft_normal (wc_block (?_)))))))))))
    refine wc_loop (l_catSzT ls hl hs0 0 (by omega) _ (by simp [normE,lenST])) ?_
    refine blk_exit (aft_normal (wa_ (wc_region (w_ (m_ (h:=?_))))))
    first | refine i_ (hc:=grow_posT _ _ (lenST ls : Nat) (by omega) (by omega)) (h:=?_)
    refine w_ (a_ (h:=wo_nil (e_ (h:=aft_normal (wa_ (wa_ (wc_region (w_ (m_ (h:=w_ (le (h:=w_ (m_ (h:=wo_nil (e_ (h:=aft_normal (wc_block (?_))))))))))))))))))
    refine wc_loop (cat_posT ls (lenST ls) hl hs0 hne L hL _ (by simp [normE])) ?_
    refine blk_exit (aft_normal (wa_ (wc_region (w_ (m_ (h:=w_ (a_ (h:=wo_nil (e_ (h:=aft_normal (wc_ret (?_))))))))))))
    all_goals (refine fin_ (hr:=(res_tmp rfl res_nil)) (h:=?_);(focus (simp)))
def bg_Etss (l : List (List Et)) : Prop := l.length ≤ 140737488351232 ∧ ∀ x ∈ l,bg_Ets x
def w_Etss (l : List (List Et)) : Nat := l.length + wS w_Ets l
theorem w_Etss_mem {l : List (List Et)} {x : List Et} (h : x ∈ l) : l.length + w_Ets x ≤ w_Etss l := by
  have := wS_mem (f:=w_Ets) h;unfold w_Etss;omega
theorem w_Etss_len {l : List (List Et)} : l.length ≤ w_Etss l := by unfold w_Etss;omega
theorem l_sz_Etss (l : List (List Et)) (hl : bg_Etss l) : ∀ x : Nat × Int,(x.1 ≤ l.length ∧ 0 ≤ x.2 ∧ x.2 < 2000000) → ∀ s,normE 2 (some [0,1,5]) s = ⟨[(0,.lst false 0 (etss false l)),(1,.int .i64 x.2),(5,.int .i64 x.1)],[],2⟩ →
 oc.loop 26 5 s = some (if 0 ≤ szI (wS w_Ets (l.drop x.1)) x.2 then (.exit 0,⟨[(1,.int .i64 (szI (wS w_Ets (l.drop x.1)) x.2))],[],2⟩) else (.ret,⟨[(1,.int .i64 (-1)),(4,.int .i64 (-1))],[],2⟩)) := by
 refine loop_ind (σ:=Nat × Int) (fun x => l.length - x.1) _ (fun x => ⟨[(0,.lst false 0 (etss false l)),(1,.int .i64 x.2),(5,.int .i64 x.1)],[],2⟩) _ ?_
 rintro ⟨i,a⟩ hi ih s hs
 simp only at hi
 refine loop_s cd26 rfl rfl hs ?_
 refine wa_ (wa_ (wc_region (w_ (m_ (h:=w_ (m_ (h:=w_ (le (h:=w_ (b_ (h:=wo_nil (e_ (h:=aft_normal (?_))))))))))))))
 refine c_ (h1:=?_) (h2:=?_)
 rotate_right 1
 focus
  intro c1
  first
  | exact dn c1
  | (
   have d1 := c1;try simp at d1
   obtain ⟨hi1,hi2,hi3⟩ := hi;have : i = l.length := (by omega);subst this
   refine wc_exit (?_)
   )
 rotate_right 1
 focus
  intro c1
  first
  | exact dn c1
  | (
   have d1 := c1;try simp at d1
   obtain ⟨hi1,hi2,hi3⟩ := hi;have hw := wrap_succ (i:=i) (by have := hl.1;omega);obtain ⟨d,hx,e1,g1⟩ := etss_cut (l:=l) (i:=i) (t:=false) (by omega);have hd := hl.2 d (List.mem_of_getElem? hx)
   refine wc_skip (?_)
   )
 all_goals first
 | refine aft_exit ?_
 | (
  refine aft_normal ?_
  refine wa_ (wc_block (wa_ (wc_region (w_ (m_ (h:=w_ (m_ (h:=w_ (x_ (h:=w_ (l_ (h:=w_ (m_ (h:=w_ (ca (hc:=sz_Ets d a hd (by omega) (by omega)) (h:=w_ (a_ (h:=wo_nil (e_ (h:=?_))))))))))))))))))))
  refine aft_normal (wa_ (wc_region (w_ (m_ (h:=w_ (b_ (h:=wo_nil (e_ (h:=aft_normal (?_))))))))))
  refine c_ (h1:=?_) (h2:=?_)
  rotate_right 1
  focus
   intro c2
   first
   | exact dn c2
   | (
    have d2 := c2;try simp at d2
    refine wc_skip (?_)
    )
  rotate_right 1
  focus
   intro c2
   first
   | exact dn c2
   | (
    have d2 := c2;try simp at d2
    refine wa_ (wc_region (w_ (a_ (h:=wo_nil (e_ (h:=aft_normal (wc_ret (?_))))))))
    )
  all_goals first | refine blk_normal ?_ | refine blk_ret ?_
  all_goals first
  | refine aft_ret ?_
  | (
   refine aft_normal ?_
   refine wc_region (w_ (m_ (h:=w_ (b_ (h:=w_ (a_ (h:=wo_nil (e_ (h:=?_)))))))))
   )
  )
 all_goals first
 | (refine (ih ((i + 1,szI (w_Ets d) a)) (⟨by simp;omega,by simp;omega,by have := szI_le0 (n:=w_Ets d) (a:=a) (by omega);simp;omega⟩) ?_ _ ?_).trans ?_;(focus (first | omega | (simp;done) | (simp;omega)));(focus (simp [normE,hw];done));(focus (simp only [e1,wS_cons];rw [szI_seq (by omega)])))
 | (apply end_leaf (ex:=Ext.ret) 2 (some [1,4]);(focus (simp [normE];rfl));(focus (simp only [e1,wS_cons];rw [szI_stop (by omega) (by omega)];simp;have := szI_neg (c:=w_Ets d) (a:=a) (by omega);simp [this])))
 | (apply end_leaf (ex:=(Ext.exit 0)) 2 (some [1,4]);(focus (simp [normE];rfl));(focus (have e0 : szI 0 a = a := (by unfold szI;rw [if_neg (by omega)];simp);simp [e0,hi2])))
theorem sz_Etss (l : List (List Et)) (a : Int) (hb : bg_Etss l) (ha : 0 ≤ a) (hc : a < 2000000) : oc.call 26 [.lst false 0 (etss false l),.int .i64 a] = some (.int .i64 (szI (w_Etss l) a),[]) := by
 refine fun_s rfl cd26 rfl rfl rfl (by simp;rfl) (by simp;rfl) ?_
 have hb1 := hb.1
 have hw : IntKind.i64.wrap (a - l.length) = a - l.length := wrap_id (by omega) (by omega)
 refine wa_ (wc_region (w_ (a_ (h:=wo_nil (e_ (h:=aft_normal (wa_ (wc_region (w_ (m_ (h:=w_ (m_ (h:=w_ (le (h:=w_ (b_ (h:=w_ (a_ (h:=?_)))))))))))))))))))
 refine wo_nil (e_ (h:=aft_normal (wa_ (wa_ (wc_region (w_ (m_ (h:=w_ (b_ (h:=wo_nil (e_ (h:=aft_normal (?_)))))))))))))
 refine c_ (h1:=?_) (h2:=?_)
 rotate_right 1
 focus
  intro c1
  first
  | exact dn c1
  | (
   have d1 := c1;try simp at d1
   simp only [hw] at d1;have e1 : szI l.length a = a - l.length := (by unfold szI;rw [if_neg (by omega)])
   refine wc_skip (?_)
   )
 rotate_right 1
 focus
  intro c1
  first
  | exact dn c1
  | (
   have d1 := c1;try simp at d1
   refine wa_ (wc_region (w_ (a_ (h:=wo_nil (e_ (h:=aft_normal (wc_ret (?_))))))))
   )
 all_goals first
 | refine aft_ret ?_
 | (
  refine aft_normal ?_
  refine wa_ (wa_ (wc_region (w_ (a_ (h:=wo_nil (e_ (h:=aft_normal (wc_block (?_)))))))))
  refine wc_loopI (l_sz_Etss l hb (0,a - l.length) ⟨by simp,by simp;omega,by simp;omega⟩ _ (by simp [normE,hw])) ?_ ?_
  rotate_right 1
  focus
   intro c2
   first
   | exact dn c2
   | (
    have d2 := c2;try simp at d2
    skip
    )
  rotate_right 1
  focus
   intro c2
   first
   | exact dn c2
   | (
    have d2 := c2;try simp at d2
    skip
    )
  all_goals first | refine blk_ret ?_ | refine blk_exit ?_
  all_goals first
  | refine aft_ret ?_
  | (
   refine aft_normal ?_
   refine wa_ (wc_region (w_ (m_ (h:=w_ (a_ (h:=wo_nil (e_ (h:=aft_normal (wc_ret (?_))))))))))
   )
  )
 all_goals (refine fin_ (hr:=(res_tmp rfl res_nil)) (h:=?_);(focus (simp [w_Etss,szI,hw] at *;grind)))
theorem l_to_Etss (l : List (List Et)) (h : w_Etss l < 2000000) : ∀ x : Nat × (List (List Et)),(x.1 ≤ l.length ∧ x.2.length = l.length ∧ x.2.take x.1 = l.take x.1) → ∀ s,normE 1 (some [0,3,4]) s = ⟨[(0,.lst false 0 (etss false l)),(3,.ref 1 0 l.length),(4,.int .i64 x.1)],[(1,⟨false,false,1,etss true x.2,0⟩)],2⟩ →
 oc.loop 28 3 s = some (.exit 0,⟨[(3,.ref 1 0 l.length)],[(1,⟨false,false,1,etss true l,0⟩)],2⟩) := by
 refine loop_ind (σ:=Nat × (List (List Et))) (fun x => l.length - x.1) _ (fun x => ⟨[(0,.lst false 0 (etss false l)),(3,.ref 1 0 l.length),(4,.int .i64 x.1)],[(1,⟨false,false,1,etss true x.2,0⟩)],2⟩) _ ?_
 rintro ⟨i,r⟩ hi ih s hs
 simp only at hi
 refine loop_s cd28 rfl rfl hs ?_
 obtain ⟨hi1,hi2,hi3⟩ := hi
 have hlen := w_Etss_len (l:=l)
 refine wa_ (wa_ (wc_region (w_ (m_ (h:=w_ (m_ (h:=w_ (le (h:=w_ (b_ (h:=wo_nil (e_ (h:=aft_normal (?_))))))))))))))
 refine c_ (h1:=?_) (h2:=?_)
 rotate_right 1
 focus
  intro c1
  simp at c1;have : i = l.length := (by omega);subst this;rw [← hi2] at hi3;simp at hi3;rw [hi2] at hi3;simp at hi3;subst hi3
  refine wc_exit (?_)
 rotate_right 1
 focus
  intro c1
  simp at c1;have hw := wrap_succ (i:=i) (by omega);obtain ⟨d,hx,d1,g1⟩ := etss_cut (t:=false) c1;have hd := w_Etss_mem (List.mem_of_getElem? hx);obtain ⟨y,hy,_,g2⟩ := etss_cut (t:=true) (l:=r) (i:=i) (by omega);simp at g2
  refine wc_skip (?_)
 all_goals first
 | refine aft_exit ?_
 | (
  refine aft_normal ?_
  refine wa_ (wc_block (wc_region (w_ (m_ (h:=w_ (m_ (h:=w_ (m_ (h:=w_ (m_ (h:=w_ (x_ (h:=w_ (l_ (h:=w_ (ca (hc:=to_Ets d (by omega)) (h:=w_ (x_ (h:=w0 (s_ (h:=?_)))))))))))))))))))))
  refine wo_nil (e_ (h:=blk_normal (aft_normal (wc_region (w_ (m_ (h:=w_ (b_ (h:=w_ (a_ (h:=wo_nil (e_ (h:=?_)))))))))))))
  )
 all_goals first
 | (refine (ih ((i + 1,r.set i d)) (⟨by simp;omega,by simpa using hi2,set_take hi3 hi2 hx⟩) ?_ _ ?_).trans ?_;(focus (first | omega | (simp;done) | (simp;omega)));(focus (simp [normE,hw];done));(focus (rfl)))
 | (apply end_leaf (ex:=(Ext.exit 0)) 1 (some [3]);(focus (simp [normE];rfl));(focus (simp)))
theorem to_Etss (l : List (List Et)) (h : w_Etss l < 2000000) : oc.call 28 [.lst false 0 (etss false l)] = some (.lst true 1 (etss true l),[]) := by
 refine fun_s rfl cd28 rfl rfl rfl (by simp;rfl) (by simp;rfl) ?_
 have hlen := w_Etss_len (l:=l)
 refine wa_ (wc_region (w_ (aN (h:=wo_nil (e_ (h:=aft_normal (wa_ (wc_region (w_ (m_ (h:=w_ (le (h:=w_ (mk (h:=w_ (a_ (h:=wo_nil (e_ (h:=?_)))))))))))))))))))
 refine aft_normal (wa_ (wa_ (wc_region (w_ (a_ (h:=wo_nil (e_ (h:=aft_normal (wc_block (?_))))))))))
 refine wc_loop (l_to_Etss l h (0,List.replicate l.length []) (by simp) _ (by simp [normE,etss_zero])) ?_
 refine blk_exit (aft_normal (wa_ (wc_region (w_ (m_ (h:=w_ (a_ (h:=wo_nil (e_ (h:=aft_normal (wc_ret (?_))))))))))))
 all_goals (refine fin_ (hr:=(res_tmp rfl res_nil)) (h:=?_);(focus (first | (simp_all;done) | (simp_all <;> omega) | (simp_all <;> split <;> simp_all <;> omega))))
theorem dEtss {n : Nat} {v : V} (h : hasT Try.prog (n + 5) 42 v) : ∃ l,v = .lst false 0 (etss false l) ∧ bg_Etss l := by
  obtain ⟨xs,e,h1,h2⟩ := dec_slice Try.underlying42 h
  obtain ⟨l,e2,h3⟩ := dec_list (f:=fun x => V.lst false 0 (ets false x)) (p:=bg_Ets) (fun x hx => dEts (h2 x hx))
  exact ⟨l,by rw [e,e2];rfl,by rw [e2] at h1;simpa using h1,h3⟩
def setsF : List (List Et) → Int
  | [] => 0
  | z :: r => if setC z = 0 then setsF r else setC z
theorem setsF_0 {z : List Et} {r : List (List Et)} (h : setC z = 0) : setsF (z :: r) = setsF r := by rw [setsF,if_pos h]
theorem setsF_1 {z : List Et} {r : List (List Et)} (h : ¬ setC z = 0) : setsF (z :: r) = setC z := by rw [setsF,if_neg h]
theorem setsF_ok : ∀ {L : List (List Et)},setsF L = 0 → ∀ z ∈ L,setC z = 0
  | [],_,z,hz => by cases hz
  | y :: r,h,z,hz => by
    by_cases hy : setC y = 0
    · rw [setsF_0 hy] at h
      rcases List.mem_cons.1 hz with rfl | hz
      · exact hy
      · exact setsF_ok h z hz
    · rw [setsF_1 hy] at h;exact absurd h hy
theorem l_setsF (L : List (List Et)) (hL : L.length < 2000000) (hw : ∀ z ∈ L,w_Ets z < 2000000) : ∀ i : Nat,(i ≤ L.length) → ∀ s,normE 1 (some [6,7,8]) s = ⟨[(6,.lst false 0 (etss false L)),(7,.int .i64 L.length),(8,.int .i64 i)],[],1⟩ →
 oc.loop 92 2 s = some (if setsF (L.drop i) = 0 then (.exit 0,⟨[],[],1⟩) else (.ret,⟨[(2,.int .i64 (setsF (L.drop i)))],[],1⟩)) := by
 refine loop_ind (σ:=Nat) (fun i => L.length - i) _ (fun i => ⟨[(6,.lst false 0 (etss false L)),(7,.int .i64 L.length),(8,.int .i64 i)],[],1⟩) _ ?_
 intro i hi ih s hs
 refine loop_s cd92 rfl rfl hs ?_
 refine wa_ (wc_region (w_ (b_ (h:=wo_nil (e_ (h:=aft_normal (wa_ (?_))))))))
 refine c_ (h1:=?_) (h2:=?_)
 rotate_right 1
 focus
  intro c1
  first
  | exact dn c1
  | (
   have d1 := c1;try simp at d1
   refine wc_exit (?_)
   )
 rotate_right 1
 focus
  intro c1
  first
  | exact dn c1
  | (
   have d1 := c1;try simp at d1
   have hj : i < L.length := (by simp at c1;omega);have hwi := wrap_succ (i:=i) (by omega);obtain ⟨z,hx,e1,g1⟩ := etss_cut (t:=false) (l:=L) (i:=i) (by omega);have hz := hw z (List.mem_of_getElem? hx)
   refine wc_skip (?_)
   )
 all_goals first
 | refine aft_exit ?_
 | (
  refine aft_normal ?_
  refine wa_ (wc_block (wa_ (wc_region (w_ (x_ (h:=w_ (l_ (h:=w_ (a_ (h:=wo_nil (e_ (h:=aft_normal (wa_ (wc_region (w_ (m_ (h:=?_)))))))))))))))))
  refine w_ (ca (hc:=e_setI z hz) (h:=w_ (a_ (h:=wo_nil (e_ (h:=aft_normal (wa_ (wc_region (w_ (m_ (h:=w_ (bE (h:=wo_nil (e_ (h:=aft_normal (?_))))))))))))))))
  refine c_ (h1:=?_) (h2:=?_)
  rotate_right 1
  focus
   intro c2
   first
   | exact dn c2
   | (
    have d2 := c2;try simp at d2
    refine wc_skip (?_)
    )
  rotate_right 1
  focus
   intro c2
   first
   | exact dn c2
   | (
    have d2 := c2;try simp at d2
    refine wa_ (wc_region (w_ (m_ (h:=w_ (a_ (h:=wo_nil (e_ (h:=aft_normal (wc_ret (?_))))))))))
    )
  all_goals first | refine blk_normal ?_ | refine blk_ret ?_
  all_goals first
  | refine aft_ret ?_
  | (
   refine aft_normal ?_
   refine wc_region (w_ (b_ (h:=w_ (m_ (h:=wo_nil (e_ (h:=?_)))))))
   )
  )
 all_goals first
 | (apply end_leaf (ex:=(Ext.exit 0)) 1 (some [2]);(focus (simp [normE];rfl));(focus (rw [List.drop_eq_nil_of_le (by simp at c1;omega)];rfl)))
 | (apply end_leaf (ex:=Ext.ret) 1 (some [2]);(focus (simp [normE];rfl));(focus (rw [e1,setsF_1 (by simpa using d2),if_neg (by simpa using d2)])))
 | (refine (ih (i + 1) (by omega) ?_ _ ?_).trans ?_;(focus (first | omega | (simp;done) | (simp;omega)));(focus (simp [normE,hwi];done));(focus (rw [e1,setsF_0 (by simpa using d2)])))
theorem e_setsF (L : List (List Et)) (hL : L.length < 2000000) (hw : ∀ z ∈ L,w_Ets z < 2000000) : oc.call 92 [.lst false 0 (etss false L)] = some (.int .i64 (setsF L),[]) := by
 refine fun_s rfl cd92 rfl rfl rfl (by simp;rfl) (by simp;rfl) ?_
 have hl2 := l_setsF L hL hw 0 (by omega)
 simp only [List.drop_zero] at hl2
 refine wa_ (wc_region (w_ (a_ (h:=wo_nil (e_ (h:=aft_normal (wa_ (wa_ (wc_region (w_ (m_ (h:=w_ (le (h:=w_ (m_ (h:=wo_nil (e_ (h:=?_))))))))))))))))))
 refine aft_normal (wc_block (?_))
 refine wc_loopI (hl2 _ (by simp [normE])) ?_ ?_
 rotate_right 1
 focus
  intro c1
  first
  | exact dn c1
  | (
   have d1 := c1;try simp at d1
   skip
   )
 rotate_right 1
 focus
  intro c1
  first
  | exact dn c1
  | (
   have d1 := c1;try simp at d1
   skip
   )
 all_goals first | refine blk_ret ?_ | refine blk_exit ?_
 all_goals first
 | refine aft_ret ?_
 | (
  refine aft_normal ?_
  refine wa_ (wc_region (w_ (a_ (h:=wo_nil (e_ (h:=aft_normal (wc_ret (?_))))))))
  )
 all_goals (refine fin_ (hr:=(res_tmp rfl res_nil)) (h:=?_);(focus (simp [*])))
def mergeN (L : List (List Et)) : Int × List Et := if 16 < L.length then (2,[]) else if setsF L = 0 then ((sumZ L.flatten).2,(sumZ L.flatten).1) else (setsF L,[])
theorem flat_in {L : List (List Et)} (h : setsF L = 0) (hl : L.length ≤ 16) : L.flatten.length ≤ 3200 ∧ ∀ x ∈ L.flatten,rowF x.row = 0 ∧ wOk x.w = true ∧ x.w ≠ 0 := by
  have h1 := setsF_ok h
  refine ⟨?_,fun x hx => ?_⟩
  · have : L.flatten.length ≤ L.length * 200 := by
      clear h hl
      induction L with
      | nil => simp
      | cons y r ih =>
        have h2 := (setC_ok (h1 y (List.mem_cons_self ..))).1
        have h3 := ih (fun z hz => h1 z (List.mem_cons_of_mem _ hz))
        simp only [List.flatten_cons,List.length_append,List.length_cons];omega
    omega
  · obtain ⟨z,hz,hxz⟩ := List.mem_flatten.1 hx
    exact (setC_ok (h1 z hz)).2.1 x hxz
theorem lenST_w {L : List (List Et)} : lenST L + L.length ≤ w_Etss L := by
  unfold lenST w_Etss
  induction L with
  | nil => simp
  | cons y r ih => have := w_Ets_len (l:=y);simp only [wS_cons,List.length_cons] at *;omega
theorem w_mem {L : List (List Et)} (h : w_Etss L < 2000000) : ∀ z ∈ L,w_Ets z < 2000000 := fun z hz => by have := w_Etss_mem hz;omega
theorem cat_0T : ∀ s,normE 1 (some [6,25,26,27]) s = ⟨[(6,.emp true),(25,.lst false 0 []),(26,.int .i64 0),(27,.int .i64 0)],[],1⟩ → oc.loop 94 11 s = some (.exit 2,⟨[(6,.emp true)],[],1⟩) := by
 intro s hs
 refine loop_s cd94 rfl rfl hs ?_
 refine wa_ (wc_region (w_ (b_ (h:=wo_nil (e_ (h:=aft_normal (wa_ (?_))))))))
 refine c_ (h1:=?_) (h2:=?_)
 rotate_right 1
 focus
  intro c1
  first
  | exact dn c1
  | (
   have d1 := c1;try simp at d1
   refine wc_exit (?_)
   )
 rotate_right 1
 focus
  intro c1
  first
  | exact dn c1
  | (
   have d1 := c1;try simp at d1
   exfalso;simp at c1
   )
 all_goals first
 | refine aft_exit ?_
 | (
  refine aft_normal ?_
  refine wa_ (wc_block (wa_ (wc_region (w_ (x_ (h:=w_ (l_ (h:=w_ (a_ (h:=wo_nil (e_ (h:=aft_normal (wc_region (w_ (m_ (h:=w_ (m_ (h:=?_))))))))))))))))))
  refine w_ (ap (h:=w_ (a_ (h:=wo_nil (e_ (h:=blk_normal (aft_normal (wc_region (w_ (b_ (h:=w_ (m_ (h:=wo_nil (e_ (h:=?_)))))))))))))))
  )
 all_goals (apply end_leaf (ex:=(Ext.exit 2)) 1 (some [6]);(focus (simp [normE];rfl));(focus (rfl)))
theorem e_catZ : oc.call 94 [.lst false 0 []] = some (.lst false 0 [],[]) := by
 have h3 := l_catSzT [] (by simp) (by simp [lenST]) 0 (by simp)
 have hz : lenST [] = 0 := rfl
 refine fun_s rfl cd94 rfl rfl rfl (by simp;rfl) (by simp;rfl) ?_
 refine wa_ (wc_region (w_ (aN (h:=wo_nil (e_ (h:=aft_normal (wa_ (wc_region (w_ (a_ (h:=wo_nil (e_ (h:=aft_normal (wa_ (wa_ (?_))))))))))))))))
 refine wc_region (w_ (m_ (h:=w_ (le (h:=w_ (m_ (h:=wo_nil (e_ (h:=aft_normal (wc_block (?_)))))))))))
 refine wc_loop (h3 _ (by simp [normE,lenST])) ?_
 refine blk_exit (aft_normal (wa_ (wc_region (w_ (m_ (h:=?_))))))
 first | refine i_ (hc:=(by simp only [hz];exact grow_nilT _ _)) (h:=?_)
 refine w_ (a_ (h:=wo_nil (e_ (h:=aft_normal (wa_ (wa_ (wc_region (w_ (m_ (h:=w_ (le (h:=w_ (m_ (h:=wo_nil (e_ (h:=aft_normal (wc_block (?_))))))))))))))))))
 refine wc_loop (cat_0T _ (by simp [normE])) ?_
 refine blk_exit (aft_normal (wa_ (wc_region (w_ (m_ (h:=w_ (a_ (h:=wo_nil (e_ (h:=aft_normal (wc_ret (?_))))))))))))
 all_goals (refine fin_ (hr:=(res_tmp rfl res_nil)) (h:=?_);(focus (simp)))
theorem e_mergeI (L : List (List Et)) (hw : w_Etss L < 2000000) : oc.call 29 [.lst false 0 (etss false L)] = some (.agg [.int .i64 (mergeN L).1,.lst true 2 (ets true (mergeN L).2)],[]) := by
 refine fun_s rfl cd29 rfl rfl rfl (by simp;rfl) (by simp;rfl) ?_
 have hlen := w_Etss_len (l:=L)
 have hls := lenST_w (L:=L)
 refine wa_ (wc_region (w_ (al (h:=wo_nil (e_ (h:=aft_normal (wa_ (wa_ (wc_region (w_ (m_ (h:=w_ (le (h:=w_ (b_ (h:=wo_nil (e_ (h:=?_))))))))))))))))))
 refine aft_normal (?_)
 refine c_ (h1:=?_) (h2:=?_)
 rotate_right 1
 focus
  intro c1
  first
  | exact dn c1
  | (
   have d1 := c1;try simp at d1
   have k1 : L.length ≤ 16 := (by first | omega | (simp at d1;omega))
   refine wc_skip (?_)
   )
 rotate_right 1
 focus
  intro c1
  first
  | exact dn c1
  | (
   have d1 := c1;try simp at d1
   refine wa_ (wc_region (w_ (bd (h:=w0 (s_ (h:=wo_nil (e_ (h:=aft_normal (wc_ret (?_))))))))))
   )
 all_goals first
 | refine aft_ret ?_
 | (
  refine aft_normal ?_
  refine wa_ (wa_ (wc_region (w_ (m_ (h:=w_ (ca (hc:=e_setsF L (by omega) (w_mem hw)) (h:=w_ (a_ (h:=wo_nil (e_ (h:=aft_normal (wa_ (wc_region (w_ (m_ (h:=w_ (bE (h:=?_))))))))))))))))))
  refine wo_nil (e_ (h:=aft_normal (?_)))
  refine c_ (h1:=?_) (h2:=?_)
  rotate_right 1
  focus
   intro c2
   first
   | exact dn c2
   | (
    have d2 := c2;try simp at d2
    obtain ⟨k2,k3⟩ := flat_in (L:=L) (by simpa using d2) k1;have k4 : setsF L = 0 := (by simpa using d2);have hsum := e_sumI L.flatten (by omega) (fun x hx => by have := (rowF_zero (k3 x hx).1).1;omega) (fun x hx => wOk_w (k3 x hx).2.1);have hsz := e_sumI [] (by simp) (fun x hx => by cases hx) (fun x hx => by cases hx);rcases (show L = [] ∨ 0 < L.length by cases L <;> simp) with rfl | hz;rotate_right;have hcat := e_catT L (by omega) (by omega) hz;have hM : mergeN L = ((sumZ L.flatten).2,(sumZ L.flatten).1) := (by unfold mergeN;rw [if_neg (by omega),if_pos k4]);obtain ⟨M,hMf⟩ : ∃ M,L.flatten = M := ⟨_,rfl⟩;rw [hMf] at hcat hsum hM
    all_goals
     refine wc_skip (?_)
    )
  rotate_right 1
  focus
   intro c2
   first
   | exact dn c2
   | (
    have d2 := c2;try simp at d2
    refine wa_ (wc_region (w_ (m_ (h:=w_ (bd (h:=w0 (s_ (h:=wo_nil (e_ (h:=aft_normal (wc_ret (?_))))))))))))
    )
  all_goals first
  | refine aft_ret ?_
  | (
   refine aft_normal ?_
   refine wa_ (wc_region (w_ (m_ (h:=?_))))
   first | refine w_ (ca (hc:=hcat) (h:=?_)) | refine w_ (ca (hc:=e_catZ) (h:=?_))
   first | refine w_ (ca (hc:=hsum) (h:=?_)) | refine w_ (ca (hc:=hsz) (h:=?_))
   refine w_ (m_ (h:=w_ (ex (h:=w_ (ex (h:=w_ (a_ (h:=w_ (a_ (h:=wo_nil (e_ (h:=aft_normal (wa_ (wc_region (w_ (m_ (h:=w_ (m_ (h:=w_ (bd (h:=?_)))))))))))))))))))))
   refine w0 (s_ (h:=wo_nil (e_ (h:=aft_normal (wc_ret (?_))))))
   )
  )
 all_goals (refine fin_ (hr:=(res_cell (tys_ok.zero _ _ rfl) rfl (by simp;rfl) (by rfl) res_nil)) (h:=?_);(focus (first | (rw [hM];simp;done) | (unfold mergeN;rw [if_pos (by omega)];simp;done) | (unfold mergeN;rw [if_neg (by omega),if_neg (by simpa using d2)];simp;done) | (simp [mergeN,setsF];done))))
def accF : List (List Et) → List Et → List Et
  | [],o => o
  | z :: r,o => if setC z = 0 then accF r (o ++ z) else o
theorem accF_0 {z : List Et} {r : List (List Et)} {o : List Et} (h : setC z = 0) : accF (z :: r) o = accF r (o ++ z) := by rw [accF,if_pos h]
theorem accF_1 {z : List Et} {r : List (List Et)} {o : List Et} (h : ¬ setC z = 0) : accF (z :: r) o = o := by rw [accF,if_neg h]
theorem accF_all : ∀ {L : List (List Et)} {o : List Et},setsF L = 0 → accF L o = o ++ L.flatten
  | [],o,_ => by simp [accF]
  | z :: r,o,h => by
    by_cases hz : setC z = 0
    · rw [setsF_0 hz] at h
      rw [accF_0 hz,accF_all h];simp
    · rw [setsF_1 hz] at h;exact absurd h hz
theorem lenST_cons (z : List Et) (r : List (List Et)) : lenST (z :: r) = z.length + lenST r := by simp [lenST]
theorem l_mS (L : List (List Et)) (hL : L.length < 2000000) (hw : ∀ z ∈ L,w_Ets z < 2000000) : ∀ x : Nat × (List Et),(x.1 ≤ L.length ∧ x.2.length + lenST (L.drop x.1) < 2000000) → ∀ s,normE 1 (some [0,2,3,4]) s = ⟨[(0,.lst false 0 (etss false L)),(2,.ptr 1 0 []),(3,.ref 2 0 x.2.length),(4,.int .i64 x.1)],[(1,⟨true,false,2,[.agg [.int .i64 0,.lst true 2 []]],0⟩),(2,⟨false,false,2,ets false x.2,0⟩)],3⟩ →
 oc.loop 27 5 s = some (if setsF (L.drop x.1) = 0 then (.exit 0,⟨[(2,.ptr 1 0 []),(3,.ref 2 0 (accF (L.drop x.1) x.2).length)],[(1,⟨true,false,2,[.agg [.int .i64 0,.lst true 2 []]],0⟩),(2,⟨false,false,2,ets false (accF (L.drop x.1) x.2),0⟩)],3⟩) else (.ret,⟨[(2,.ptr 1 0 []),(3,.ref 2 0 (accF (L.drop x.1) x.2).length)],[(1,⟨true,false,2,[.agg [.int .i64 (setsF (L.drop x.1)),.lst true 2 []]],0⟩),(2,⟨false,false,2,ets false (accF (L.drop x.1) x.2),0⟩)],3⟩)) := by
 refine loop_ind (σ:=Nat × (List Et)) (fun x => L.length - x.1) _ (fun x => ⟨[(0,.lst false 0 (etss false L)),(2,.ptr 1 0 []),(3,.ref 2 0 x.2.length),(4,.int .i64 x.1)],[(1,⟨true,false,2,[.agg [.int .i64 0,.lst true 2 []]],0⟩),(2,⟨false,false,2,ets false x.2,0⟩)],3⟩) _ ?_
 rintro ⟨i,o⟩ hi ih s hs
 simp only at hi
 refine loop_s cd27 rfl rfl hs ?_
 obtain ⟨hi1,hi2⟩ := hi
 refine wa_ (wa_ (wc_region (w_ (m_ (h:=w_ (m_ (h:=w_ (le (h:=w_ (b_ (h:=wo_nil (e_ (h:=aft_normal (?_))))))))))))))
 refine c_ (h1:=?_) (h2:=?_)
 rotate_right 1
 focus
  intro c1
  first
  | exact dn c1
  | (
   have d1 := c1;try simp at d1
   refine wc_exit (?_)
   )
 rotate_right 1
 focus
  intro c1
  first
  | exact dn c1
  | (
   have d1 := c1;try simp at d1
   have hj : i < L.length := (by simp at c1;omega);have hwi := wrap_succ (i:=i) (by omega);obtain ⟨z,hx,e1,g1⟩ := etss_cut (t:=false) (l:=L) (i:=i) (by omega);have hz := hw z (List.mem_of_getElem? hx);rw [e1,lenST_cons] at hi2
   refine wc_skip (?_)
   )
 all_goals first
 | refine aft_exit ?_
 | (
  refine aft_normal ?_
  refine wa_ (wc_block (wa_ (wa_ (wc_region (w_ (m_ (h:=w_ (m_ (h:=w_ (x_ (h:=w_ (l_ (h:=w_ (ca (hc:=e_setS z hz) (h:=w_ (a_ (h:=wo_nil (e_ (h:=?_)))))))))))))))))))
  refine aft_normal (wa_ (wc_region (w_ (m_ (h:=w_ (bE (h:=wo_nil (e_ (h:=aft_normal (?_))))))))))
  refine c_ (h1:=?_) (h2:=?_)
  rotate_right 1
  focus
   intro c2
   first
   | exact dn c2
   | (
    have d2 := c2;try simp at d2
    refine wc_skip (?_)
    )
  rotate_right 1
  focus
   intro c2
   first
   | exact dn c2
   | (
    have d2 := c2;try simp at d2
    refine wa_ (wc_region (w_ (m_ (h:=w_ (bd (h:=w0 (s_ (h:=wo_nil (e_ (h:=aft_normal (wc_ret (?_))))))))))))
    )
  all_goals first
  | refine aft_ret ?_
  | (
   refine aft_normal ?_
   refine wc_region (w_ (m_ (h:=w_ (m_ (h:=w_ (m_ (h:=w_ (x_ (h:=w_ (l_ (h:=w_ (ap (h:=w_ (a_ (h:=wo_nil (e_ (h:=?_)))))))))))))))))
   )
  all_goals first | refine blk_normal ?_ | refine blk_ret ?_
  all_goals first
  | refine aft_ret ?_
  | (
   refine aft_normal ?_
   refine wc_region (w_ (m_ (h:=w_ (b_ (h:=w_ (a_ (h:=wo_nil (e_ (h:=?_)))))))))
   )
  )
 all_goals first
 | (apply end_leaf (ex:=(Ext.exit 0)) 1 (some [2,3]);(focus (simp [normE];rfl));(focus (rw [List.drop_eq_nil_of_le (by simp at c1;omega)];rfl)))
 | (apply end_leaf (ex:=Ext.ret) 1 (some [2,3]);(focus (simp [normE];rfl));(focus (rw [e1,setsF_1 (by simpa using d2),accF_1 (by simpa using d2),if_neg (by simpa using d2)])))
 | (refine (ih ((i + 1,o ++ z)) (⟨by simp only;omega,by simp;omega⟩) ?_ _ ?_).trans ?_;(focus (first | omega | (simp;done) | (simp;omega)));(focus (simp [normE,hwi];done));(focus (rw [e1,setsF_0 (by simpa using d2),accF_0 (by simpa using d2)])))
theorem e_mergeS (L : List (List Et)) (hw : w_Etss L < 2000000) : oc.call 27 [.lst false 0 (etss false L)] = some (.agg [.int .i64 (mergeN L).1,.lst true 2 (ets true (mergeN L).2)],[]) := by
  have hlen := w_Etss_len (l:=L)
  have hls := lenST_w (L:=L)
  have hl5 := l_mS L (by omega) (w_mem hw) (0,[]) ⟨by simp,by simp;omega⟩
  simp only [List.drop_zero] at hl5
  by_cases h : L.length ≤ 16 ∧ setsF L = 0
  · obtain ⟨k1,k4⟩ := h
    obtain ⟨k2,k3⟩ := flat_in k4 k1
    have hsum := e_sumS L.flatten (by omega) (fun x hx => by have := (rowF_zero (k3 x hx).1).1;omega)
    have hm : mergeN L = ((sumZ L.flatten).2,(sumZ L.flatten).1) := by unfold mergeN;rw [if_neg (by omega),if_pos k4]
    obtain ⟨M,hMf⟩ : ∃ M,L.flatten = M := ⟨_,rfl⟩
    rw [accF_all k4,if_pos k4,List.nil_append] at hl5
    rw [hMf] at hl5 hsum hm k2
    rw [hm]
    refine fun_s rfl cd27 rfl rfl rfl (by simp;rfl) (by simp;rfl) ?_
    refine wa_ (wc_region (w_ (al (h:=wo_nil (e_ (h:=aft_normal (wa_ (wa_ (wc_region (w_ (m_ (h:=w_ (le (h:=w_ (b_ (h:=wo_nil (e_ (h:=?_))))))))))))))))))
    refine aft_normal (?_)
    refine c_ (h1:=?_) (h2:=?_)
    rotate_right 1
    focus
     intro c1
     first
     | exact dn c1
     | (have d1 := c1;try simp at d1
        refine wc_skip (?_)
        )
    rotate_right 1
    focus
     intro c1
     first
     | exact dn c1
     | (have d1 := c1;try simp at d1
        exfalso;simp at c1;omega
        )
    all_goals first
    | refine aft_ret ?_
    | (refine aft_normal ?_
       refine wa_ (wc_region (w_ (bs (h:=w_ (a_ (h:=wo_nil (e_ (h:=aft_normal (wa_ (wa_ (wc_region (w_ (a_ (h:=wo_nil (e_ (h:=aft_normal (?_)))))))))))))))))
       refine wc_block (?_)
       refine wc_loop (hl5 _ (by simp [normE])) ?_
       first | refine blk_ret ?_ | refine blk_exit ?_
       all_goals first
       | refine aft_ret ?_
       | (refine aft_normal ?_
          refine wa_ (wc_region (w_ (m_ (h:=w_ (ca (hc:=hsum) (h:=w_ (m_ (h:=w_ (ex (h:=w_ (ex (h:=w_ (a_ (h:=w_ (a_ (h:=wo_nil (e_ (h:=aft_normal (wa_ (?_))))))))))))))))))))
          refine wc_region (w_ (m_ (h:=w_ (m_ (h:=w_ (bd (h:=w0 (s_ (h:=wo_nil (e_ (h:=aft_normal (wc_ret (?_)))))))))))))
          )
       )
    all_goals (refine fin_ (hr:=(res_cell (tys_ok.zero _ _ rfl) rfl (by simp;rfl) (by rfl) res_nil)) (h:=?_);(focus (simp)))
  · refine fun_s rfl cd27 rfl rfl rfl (by simp;rfl) (by simp;rfl) ?_
    refine wa_ (wc_region (w_ (al (h:=wo_nil (e_ (h:=aft_normal (wa_ (wa_ (wc_region (w_ (m_ (h:=w_ (le (h:=w_ (b_ (h:=wo_nil (e_ (h:=?_))))))))))))))))))
    refine aft_normal (?_)
    refine c_ (h1:=?_) (h2:=?_)
    rotate_right 1
    focus
     intro c1
     first
     | exact dn c1
     | (have d1 := c1;try simp at d1
        have k1 : L.length ≤ 16 := (by simp at c1;omega);have k5 : ¬ setsF L = 0 := (fun e => h ⟨k1,e⟩);rw [if_neg k5] at hl5
        refine wc_skip (?_)
        )
    rotate_right 1
    focus
     intro c1
     first
     | exact dn c1
     | (have d1 := c1;try simp at d1
        refine wa_ (wc_region (w_ (bd (h:=w0 (s_ (h:=wo_nil (e_ (h:=aft_normal (wc_ret (?_))))))))))
        )
    all_goals first
    | refine aft_ret ?_
    | (refine aft_normal ?_
       refine wa_ (wc_region (w_ (bs (h:=w_ (a_ (h:=wo_nil (e_ (h:=aft_normal (wa_ (wa_ (wc_region (w_ (a_ (h:=wo_nil (e_ (h:=aft_normal (?_)))))))))))))))))
       refine wc_block (?_)
       refine wc_loop (hl5 _ (by simp [normE])) ?_
       first | refine blk_ret ?_ | refine blk_exit ?_
       all_goals first
       | refine aft_ret ?_
       | (refine aft_normal ?_
          refine wa_ (wc_region (w_ (m_ (h:=w_ (MISSING_CALL_spec.l2Set (h:=w_ (m_ (h:=w_ (ex (h:=w_ (ex (h:=w_ (a_ (h:=w_ (a_ (h:=wo_nil (e_ (h:=aft_normal (wa_ (?_))))))))))))))))))))
          refine wc_region (w_ (m_ (h:=w_ (m_ (h:=w_ (bd (h:=w0 (s_ (h:=wo_nil (e_ (h:=aft_normal (wc_ret (?_)))))))))))))
          )
       )
    all_goals (refine fin_ (hr:=(res_cell (tys_ok.zero _ _ rfl) rfl (by simp;rfl) (by rfl) res_nil)) (h:=?_);(focus (unfold mergeN;first | (rw [if_pos (by simp at c1;omega)];simp;done) | (rw [if_neg (by omega),if_neg k5];simp))))
@[simp] abbrev srE (r : Int × List Et) : V := .agg [.int .i64 r.1,.lst false 0 (ets false r.2)]
theorem e_eqSet (r s : Int × List Et) (h1 : w_Ets r.2 < 2000000) (h2 : w_Ets s.2 < 2000000) : oc.call 30 [srE r,srE s] = some (.bool (decide (r = s)),[]) := by
 refine fun_s rfl cd30 rfl rfl rfl (by simp;rfl) (by simp;rfl) ?_
 refine wa_ (wc_region (w_ (bx (h:=w_ (bx (h:=w_ (a_ (h:=wo_nil (e_ (h:=aft_normal (wa_ (wa_ (wc_region (w_ (f_ (h:=w_ (l_ (h:=?_))))))))))))))))))
 refine w_ (f_ (h:=w_ (l_ (h:=w_ (bE (h:=wo_nil (e_ (h:=aft_normal (?_)))))))))
 refine c_ (h1:=?_) (h2:=?_)
 rotate_right 1
 focus
  intro c1
  first
  | exact dn c1
  | (
   have d1 := c1;try simp at d1
   refine wc_skip (?_)
   )
 rotate_right 1
 focus
  intro c1
  first
  | exact dn c1
  | (
   have d1 := c1;try simp at d1
   refine wa_ (wc_region (w_ (a_ (h:=wo_nil (e_ (h:=aft_normal (wc_ret (?_))))))))
   )
 all_goals first
 | refine aft_ret ?_
 | (
  refine aft_normal ?_
  refine wa_ (wa_ (wc_region (w_ (f_ (h:=w_ (l_ (h:=w_ (f_ (h:=w_ (l_ (h:=w_ (ca (hc:=eq_Ets r.2 s.2 h1 h2) (h:=w_ (u_ (h:=wo_nil (e_ (h:=aft_normal (?_))))))))))))))))))
  refine c_ (h1:=?_) (h2:=?_)
  rotate_right 1
  focus
   intro c2
   first
   | exact dn c2
   | (
    have d2 := c2;try simp at d2
    refine wc_skip (?_)
    )
  rotate_right 1
  focus
   intro c2
   first
   | exact dn c2
   | (
    have d2 := c2;try simp at d2
    refine wa_ (wc_region (w_ (a_ (h:=wo_nil (e_ (h:=aft_normal (wc_ret (?_))))))))
    )
  all_goals first
  | refine aft_ret ?_
  | (
   refine aft_normal ?_
   refine wa_ (wc_region (w_ (a_ (h:=wo_nil (e_ (h:=aft_normal (wc_ret (?_))))))))
   )
  )
 all_goals (refine fin_ (hr:=(res_tmp rfl res_nil)) (h:=?_);(focus (simp [Prod.ext_iff] at *;simp_all)))
theorem e_heldSet (c k : Int) (l : List Et) (hk : 0 ≤ k) (hb : k + (cn_Ets l : Nat) < 1000000000000000000) : oc.call 34 [srE (c,mk_Ets k l),.int .i64 k] = some (.int .i64 (k + (cn_Ets l : Nat)),[]) := by
 refine fun_s rfl cd34 rfl rfl rfl (by simp;rfl) (by simp;rfl) ?_
 refine wa_ (wc_region (w_ (bx (h:=w_ (a_ (h:=wo_nil (e_ (h:=aft_normal (wa_ (wc_region (w_ (f_ (h:=w_ (l_ (h:=w_ (m_ (h:=w_ (ca (hc:=held_Ets k l hk hb) (h:=?_)))))))))))))))))))
 refine w_ (a_ (h:=wo_nil (e_ (h:=aft_normal (wa_ (wa_ (wc_region (w_ (m_ (h:=w_ (b_ (h:=wo_nil (e_ (h:=aft_normal (?_)))))))))))))))
 refine c_ (h1:=?_) (h2:=?_)
 rotate_right 1
 focus
  intro c1
  first
  | exact dn c1
  | (
   have d1 := c1;try simp at d1
   refine wc_skip (?_)
   )
 rotate_right 1
 focus
  intro c1
  first
  | exact dn c1
  | (
   have d1 := c1;try simp at d1
   refine wa_ (wc_region (w_ (a_ (h:=wo_nil (e_ (h:=aft_normal (wc_ret (?_))))))))
   )
 all_goals first
 | refine aft_ret ?_
 | (
  refine aft_normal ?_
  refine wa_ (wc_region (w_ (m_ (h:=w_ (a_ (h:=wo_nil (e_ (h:=aft_normal (wc_ret (?_))))))))))
  )
 all_goals (refine fin_ (hr:=(res_tmp rfl res_nil)) (h:=?_);(focus (first | (simp at *;done) | (simp at *;omega))))
theorem w_Ets_le {l : List Et} {n : Nat} (h : ∀ x ∈ l,x.row.length ≤ n) : w_Ets l ≤ l.length + l.length * n := by
  have : wS w_Et l ≤ l.length * n := wS_leS (f:=w_Et) (fun x hx => by have := h x hx;unfold w_Et;omega)
  unfold w_Ets;omega
theorem mergeN_w {L : List (List Et)} : w_Ets (mergeN L).2 < 2000 := by
  unfold mergeN
  split
  · simp [w_Ets]
  · split
    · rename_i h1 h2
      obtain ⟨k2,k3⟩ := flat_in h2 (by omega)
      obtain ⟨k4,k5⟩ := sumZ_ok (z:=L.flatten) (n:=4) (fun x hx => (rowF_zero (k3 x hx).1).1)
      have := w_Ets_le k5
      simp only;omega
    · simp [w_Ets]
theorem cn_Etss_w {L : List (List Et)} : cn_Etss L ≤ w_Etss L := by
  unfold cn_Etss w_Etss
  induction L with
  | nil => simp
  | cons y r ih => have := cn_Ets_eq (l:=y);simp only [wS_cons,List.length_cons] at *;omega
theorem law_merge (L : List (List Et)) (hb : bg_Etss L) : oc.call 5 [.lst false 0 (etss false L)] = some (.bool true,[]) := by
 refine fun_s rfl cd5 rfl rfl rfl (by simp;rfl) (by simp;rfl) ?_
 refine wa_ (wc_region (w_ (a_ (h:=wo_nil (e_ (h:=aft_normal (wa_ (wc_region (w_ (a_ (h:=wo_nil (e_ (h:=aft_normal (wa_ (wc_region (?_))))))))))))))))
 refine w_ (m_ (h:=w_ (m_ (h:=w_ (ca (hc:=sz_Etss L 1048576 hb (by omega) (by omega)) (h:=w_ (a_ (h:=wo_nil (e_ (h:=aft_normal (wa_ (wa_ (wc_region (w_ (m_ (h:=w_ (b_ (h:=wo_nil (e_ (h:=?_))))))))))))))))))))
 refine aft_normal (?_)
 refine c_ (h1:=?_) (h2:=?_)
 rotate_right 1
 focus
  intro c1
  first
  | exact dn c1
  | (
   have d1 := c1;try simp at d1
   obtain ⟨h4,h5⟩ := szI_pos (n:=w_Etss L) (a:=1048576) (by omega);have hw : w_Etss L < 2000000 := (by omega);have hs1 := e_mergeS L hw;have hm := mergeN_w (L:=L);have hlen := w_Etss_len (l:=L);have hE : wEs L := ⟨by omega,w_mem hw⟩;have hc1 := cn_Etss_w (L:=L);have hc2 := cn_Ets_eq (l:=(mergeN L).2)
   refine wc_skip (?_)
   )
 rotate_right 1
 focus
  intro c1
  first
  | exact dn c1
  | (
   have d1 := c1;try simp at d1
   refine wa_ (wc_region (w_ (a_ (h:=wo_nil (e_ (h:=aft_normal (wc_ret (?_))))))))
   )
 all_goals first
 | refine aft_ret ?_
 | (
  refine aft_normal ?_
  refine wa_ (wc_region (w_ (m_ (h:=w_ (ca (hc:=to_Etss L hw) (h:=w_ (ca (hc:=hs1) (h:=w_ (al (h:=w0 (s_ (h:=wo_nil (e_ (h:=aft_normal (wa_ (wc_region (w_ (m_ (h:=?_)))))))))))))))))))
  refine w_ (ca (hc:=to_Etss L hw) (h:=w_ (a_ (h:=wo_nil (e_ (h:=aft_normal (wa_ (wc_region (w_ (m_ (h:=w_ (ca (hc:=e_mergeI L hw) (h:=w_ (al (h:=w0 (s_ (h:=wo_nil (e_ (h:=aft_normal (?_))))))))))))))))))))
  refine wa_ (wa_ (wc_region (w_ (l_ (h:=w_ (l_ (h:=w_ (ca (hc:=e_eqSet (mergeN L) (mergeN L) (by omega) (by omega)) (h:=w_ (u_ (h:=wo_nil (e_ (h:=aft_normal (?_))))))))))))))
  refine c_ (h1:=?_) (h2:=?_)
  rotate_right 1
  focus
   intro c2
   first
   | exact dn c2
   | (
    have d2 := c2;try simp at d2
    refine wc_skip (?_)
    )
  rotate_right 1
  focus
   intro c2
   first
   | exact dn c2
   | (
    have d2 := c2;try simp at d2
    refine wa_ (wc_region (w_ (a_ (h:=wo_nil (e_ (h:=aft_normal (wc_ret (?_))))))))
    )
  all_goals first
  | refine aft_ret ?_
  | (
   refine aft_normal ?_
   refine wa_ (wa_ (wc_region (w_ (m_ (h:=w_ (m_ (h:=w_ (ca (hc:=to_Etss L hw) (h:=w_ (ca (hc:=eq_Etss L L hE hE) (h:=w_ (u_ (h:=wo_nil (e_ (h:=aft_normal (?_))))))))))))))))
   refine c_ (h1:=?_) (h2:=?_)
   rotate_right 1
   focus
    intro c3
    first
    | exact dn c3
    | (
     have d3 := c3;try simp at d3
     refine wc_skip (?_)
     )
   rotate_right 1
   focus
    intro c3
    first
    | exact dn c3
    | (
     have d3 := c3;try simp at d3
     refine wa_ (wc_region (w_ (a_ (h:=wo_nil (e_ (h:=aft_normal (wc_ret (?_))))))))
     )
   all_goals first
   | refine aft_ret ?_
   | (
    refine aft_normal ?_
    refine wa_ (wc_region (w_ (a_ (h:=wo_nil (e_ (h:=aft_normal (wa_ (wc_region (w_ (m_ (h:=w_ (m_ (h:=?_)))))))))))))
    first | refine ip (hc:=mkf_Etss 1 L (by omega) (by omega) (by omega)) (h:=?_) | refine iq (hc:=mkf_Etss 1 L (by omega) (by omega) (by omega)) (h:=?_)
    refine w_ (a_ (h:=wo_nil (e_ (h:=aft_normal (wa_ (wa_ (wc_region (w_ (m_ (h:=w_ (b_ (h:=w_ (m_ (h:=?_))))))))))))))
    refine gw_ (h1:=?_) (h2:=?_)
    rotate_right 1
    focus
     intro c4
     first
     | exact dn c4
     | (
      have d4 := c4;try simp at d4
      refine go_ (h:=go_ (h:=go_ (h:=go_ (h:=?_))))
      )
    rotate_right 1
    focus
     intro c4
     first
     | exact dn c4
     | (
      have d4 := c4;try simp at d4
      refine g_ (h:=w_ (l_ (h:=g_ (h:=w_ (l_ (h:=g_ (h:=w_ (ca (hc:=e_eqSet (mergeN L) (mergeN L) (by omega) (by omega)) (h:=g_ (h:=w_ (u_ (h:=?_))))))))))))
      )
    all_goals
     refine w_ (pk (h:=wo_nil (e_ (h:=?_))))
    all_goals first
    | (
     refine aft_normal ?_
     refine c_ (h1:=?_) (h2:=?_)
     rotate_right 1
     focus
      intro c5
      first
      | exact dn c5
      | (
       have d5 := c5;try simp at d5
       refine wc_skip (?_)
       )
     rotate_right 1
     focus
      intro c5
      first
      | exact dn c5
      | (
       have d5 := c5;try simp at d5
       refine wa_ (wc_region (w_ (a_ (h:=wo_nil (e_ (h:=aft_normal (wc_ret (?_))))))))
       )
     )
    all_goals first
    | refine aft_ret ?_
    | (
     refine aft_normal ?_
     refine wa_ (wc_region (w_ (a_ (h:=wo_nil (e_ (h:=aft_normal (wa_ (wc_region (w_ (l_ (h:=w_ (m_ (h:=?_)))))))))))))
     refine iE (h:=?_)
     apply Exists.intro
     apply Exists.intro
     apply Exists.intro
     apply And.intro
     focus
      apply inl_s (by rw [cf_pl];rfl) cd33 rfl rfl (by simp;rfl)
      refine wa_ (wc_region (w_ (bx (h:=w_ (a_ (h:=wo_nil (e_ (h:=aft_normal (wa_ (wc_region (w_ (f_ (h:=w_ (l_ (h:=w_ (m_ (h:=?_)))))))))))))))))
      first | refine ip (hc:=mkf_Ets 1 (mergeN L).2 (by omega) (by omega)) (h:=?_) | refine iq (hc:=mkf_Ets 1 (mergeN L).2 (by omega) (by omega)) (h:=?_)
      refine w_ (a_ (h:=wo_nil (e_ (h:=aft_normal (wa_ (wc_region (w_ (m_ (h:=w_ (a_ (h:=wo_nil (e_ (h:=aft_normal (wc_ret (?_)))))))))))))))
      exact ⟨by simp,_,rfl,rfl,rfl⟩
     refine ⟨_,(by (simp;rfl)),?_⟩
     refine w_ (a_ (h:=wo_nil (e_ (h:=aft_normal (wa_ (wc_region (w_ (a_ (h:=wo_nil (e_ (h:=aft_normal (wa_ (wc_region (w_ (l_ (h:=w_ (m_ (h:=?_))))))))))))))))))
     refine w_ (ca (hc:=e_heldSet (mergeN L).1 1 (mergeN L).2 (by omega) (by omega)) (h:=w_ (a_ (h:=wo_nil (e_ (h:=aft_normal (wa_ (wa_ (wc_region (w_ (m_ (h:=w_ (b_ (h:=wo_nil (e_ (h:=aft_normal (?_)))))))))))))))))
     refine c_ (h1:=?_) (h2:=?_)
     rotate_right 1
     focus
      intro c6
      first
      | exact dn c6
      | (
       have d6 := c6;try simp at d6
       refine wc_skip (?_)
       )
     rotate_right 1
     focus
      intro c6
      first
      | exact dn c6
      | (
       have d6 := c6;try simp at d6
       refine wa_ (wc_region (w_ (a_ (h:=wo_nil (e_ (h:=aft_normal (wc_ret (?_))))))))
       )
     all_goals first
     | refine aft_ret ?_
     | (
      refine aft_normal ?_
      refine wa_ (wa_ (wc_region (w_ (m_ (h:=w_ (m_ (h:=w_ (bE (h:=wo_nil (e_ (h:=aft_normal (?_))))))))))))
      refine c_ (h1:=?_) (h2:=?_)
      rotate_right 1
      focus
       intro c7
       first
       | exact dn c7
       | (
        have d7 := c7;try simp at d7
        refine wc_skip (?_)
        )
      rotate_right 1
      focus
       intro c7
       first
       | exact dn c7
       | (
        have d7 := c7;try simp at d7
        refine wa_ (wc_region (w_ (a_ (h:=wo_nil (e_ (h:=aft_normal (wc_ret (?_))))))))
        )
      all_goals first
      | refine aft_ret ?_
      | (
       refine aft_normal ?_
       refine wa_ (wc_region (w_ (m_ (h:=w_ (ca (hc:=to_Etss L hw) (h:=w_ (ca (hc:=e_mergeI L hw) (h:=w_ (al (h:=w0 (s_ (h:=wo_nil (e_ (h:=aft_normal (wa_ (wa_ (wc_region (?_))))))))))))))))))
       refine w_ (l_ (h:=w_ (l_ (h:=w_ (ca (hc:=e_eqSet (mergeN L) (mergeN L) (by omega) (by omega)) (h:=w_ (u_ (h:=wo_nil (e_ (h:=aft_normal (?_)))))))))))
       refine c_ (h1:=?_) (h2:=?_)
       rotate_right 1
       focus
        intro c8
        first
        | exact dn c8
        | (
         have d8 := c8;try simp at d8
         refine wc_skip (?_)
         )
       rotate_right 1
       focus
        intro c8
        first
        | exact dn c8
        | (
         have d8 := c8;try simp at d8
         refine wa_ (wc_region (w_ (a_ (h:=wo_nil (e_ (h:=aft_normal (wc_ret (?_))))))))
         )
       all_goals first
       | refine aft_ret ?_
       | (
        refine aft_normal ?_
        refine wa_ (wc_region (w_ (a_ (h:=wo_nil (e_ (h:=aft_normal (wa_ (wc_region (w_ (l_ (h:=w_ (m_ (h:=w_ (ca (hc:=e_heldSet (mergeN L).1 1 (mergeN L).2 (by omega) (by omega)) (h:=w_ (a_ (h:=wo_nil (e_ (h:=?_)))))))))))))))))))
        refine aft_normal (wa_ (wa_ (wc_region (w_ (m_ (h:=w_ (b_ (h:=wo_nil (e_ (h:=aft_normal (?_)))))))))))
        refine c_ (h1:=?_) (h2:=?_)
        rotate_right 1
        focus
         intro c9
         first
         | exact dn c9
         | (
          have d9 := c9;try simp at d9
          refine wc_skip (?_)
          )
        rotate_right 1
        focus
         intro c9
         first
         | exact dn c9
         | (
          have d9 := c9;try simp at d9
          refine wa_ (wc_region (w_ (a_ (h:=wo_nil (e_ (h:=aft_normal (wc_ret (?_))))))))
          )
        all_goals first
        | refine aft_ret ?_
        | (
         refine aft_normal ?_
         refine wa_ (wa_ (wc_region (w_ (m_ (h:=w_ (m_ (h:=w_ (bE (h:=wo_nil (e_ (h:=aft_normal (?_))))))))))))
         refine c_ (h1:=?_) (h2:=?_)
         rotate_right 1
         focus
          intro c10
          first
          | exact dn c10
          | (
           have d10 := c10;try simp at d10
           refine wc_skip (?_)
           )
         rotate_right 1
         focus
          intro c10
          first
          | exact dn c10
          | (
           have d10 := c10;try simp at d10
           refine wa_ (wc_region (w_ (a_ (h:=wo_nil (e_ (h:=aft_normal (wc_ret (?_))))))))
           )
         all_goals first
         | refine aft_ret ?_
         | (
          refine aft_normal ?_
          refine wa_ (wc_region (w_ (a_ (h:=wo_nil (e_ (h:=aft_normal (wc_ret (?_))))))))
          )
         )
        )
       )
      )
     )
    )
   )
  )
 all_goals (refine fin_ (hr:=(res_tmp rfl res_nil)) (h:=?_);(focus (simp)))
end Go.Proofs.Ytgkbmiaimjpbfaa.Ev
