/- Part 6 of the proof that the law named in the last part returns true at every argument: an evaluator of the program, shown sound, and its runs. No further conditions. -/
import Derived.Test.YtgkbmiaimjpbfaaGreatML1305
namespace Go.Proofs.YtgkbmiaimjpbfaaGreat.Ev
open Go
set_option maxRecDepth 100000
set_option linter.unusedSimpArgs false
set_option linter.unusedVariables false
set_option maxHeartbeats 2000000
def inbR (pl : List Nd) : List Fr → Int
  | [] => 0
  | f :: r => if frC pl f = 0 then (if f.kind = 1 then inbR pl r else 1) else frC pl f
theorem inbR_0 {pl : List Nd} {f : Fr} {r : List Fr} (h : frC pl f = 0) (h2 : f.kind = 1) : inbR pl (f :: r) = inbR pl r := by rw [inbR, if_pos h, if_pos h2]
theorem inbR_1 {pl : List Nd} {f : Fr} {r : List Fr} (h : frC pl f = 0) (h2 : ¬ f.kind = 1) : inbR pl (f :: r) = 1 := by rw [inbR, if_pos h, if_neg h2]
theorem inbR_2 {pl : List Nd} {f : Fr} {r : List Fr} (h : ¬ frC pl f = 0) : inbR pl (f :: r) = frC pl f := by rw [inbR, if_neg h]
def hdsR (pl : List Nd) : Nat → List Hd → Int
  | _, [] => 0
  | k, h :: r => if heldC pl k h = 0 then hdsR pl (k + 1) r else heldC pl k h
theorem hdsR_0 {pl : List Nd} {k : Nat} {h : Hd} {r : List Hd} (e : heldC pl k h = 0) : hdsR pl k (h :: r) = hdsR pl (k + 1) r := by rw [hdsR, if_pos e]
theorem hdsR_1 {pl : List Nd} {k : Nat} {h : Hd} {r : List Hd} (e : ¬ heldC pl k h = 0) : hdsR pl k (h :: r) = heldC pl k h := by rw [hdsR, if_neg e]
def outOk (pl : List Nd) (o : Rl) : Bool := inI o.node 0 ((pl.length : Int) - 1) && (decide ((ndAt pl o.node).op = 12) && inI o.ep 0 19)
theorem outOk_of {pl : List Nd} {o : Rl} (h : outOk pl o = true) : 0 ≤ o.node ∧ o.node < pl.length := by
  simp [outOk, inI] at h; omega
def outR (pl : List Nd) : List Rl → Int
  | [] => 0
  | o :: r => if outOk pl o = true then (if widF o.set (at0 (widN pl) o.node) = 0 then outR pl r else widF o.set (at0 (widN pl) o.node)) else 3
theorem outR_0 {pl : List Nd} {o : Rl} {r : List Rl} (h : outOk pl o = true) (h2 : widF o.set (at0 (widN pl) o.node) = 0) : outR pl (o :: r) = outR pl r := by rw [outR, if_pos h, if_pos h2]
theorem outR_1 {pl : List Nd} {o : Rl} {r : List Rl} (h : outOk pl o = true) (h2 : ¬ widF o.set (at0 (widN pl) o.node) = 0) : outR pl (o :: r) = widF o.set (at0 (widN pl) o.node) := by rw [outR, if_pos h, if_neg h2]
theorem outR_2 {pl : List Nd} {o : Rl} {r : List Rl} (h : outOk pl o = false) : outR pl (o :: r) = 3 := by rw [outR, if_neg (by simp [h])]
def wkC (pl : List Nd) (w : Wk) : Int :=
  if 60 < w.inbox.length ∨ 400 < w.outs.length then 2
  else if inbR pl w.inbox = 0 then (if ctsF pl w.counts = 0 then (if w.nodes.length = pl.length then (if hdsR pl 0 w.nodes = 0 then (if inI w.top 0 20 = true ∧ (w.ep = -1 ∨ w.ep = w.top) then outR pl w.outs else 3) else hdsR pl 0 w.nodes) else 2) else ctsF pl w.counts)
  else inbR pl w.inbox
theorem w_Wk_in {w : Wk} (h : w_Wk w < 2000000) : w_Frs w.inbox < 2000000 ∧ w.counts.length < 2000000 ∧ w_Hds w.nodes < 2000000 ∧ w_Rls w.outs < 2000000 := by unfold w_Wk at h; omega
theorem w_Rl_in {b : Rl} (hb : w_Rl b < 2000000) : w_Ets b.set < 2000000 := by unfold w_Rl at hb; omega
theorem l_wk1 (pl : List Nd) (w : Wk) (hp : pl.length < 2000000) (hk : okN pl) (h0 : (lookN pl).2 = 0) (hx : w_Frs w.inbox < 2000000) : ∀ i : Nat, (i ≤ w.inbox.length) → ∀ s, normE 3 (some [0, 1, 5, 28, 29, 30]) s = ⟨[(0, .lst false 0 (nds false 0 pl)), (1, .lst false 0 (ints (widN pl))), (5, .ptr 3 0 []), (28, .lst false 0 (frs false w.inbox)), (29, .int .i64 w.inbox.length), (30, .int .i64 i)], [(3, ⟨true, false, 7, [w.v false], 0⟩)], 4⟩ →
    oc.loop 39 4 s = some (if inbR pl (w.inbox.drop i) = 0 then (.exit 0, ⟨[(0, .lst false 0 (nds false 0 pl)), (1, .lst false 0 (ints (widN pl))), (5, .ptr 3 0 [])], [(3, ⟨true, false, 7, [w.v false], 0⟩)], 4⟩) else (.ret, ⟨[(0, .lst false 0 (nds false 0 pl)), (1, .lst false 0 (ints (widN pl))), (5, .ptr 3 0 []), (6, .int .i64 (inbR pl (w.inbox.drop i)))], [(3, ⟨true, false, 7, [w.v false], 0⟩)], 4⟩)) := by
  refine loop_ind (σ := Nat) (fun i => w.inbox.length - i) _ (fun i => ⟨[(0, .lst false 0 (nds false 0 pl)), (1, .lst false 0 (ints (widN pl))), (5, .ptr 3 0 []), (28, .lst false 0 (frs false w.inbox)), (29, .int .i64 w.inbox.length), (30, .int .i64 i)], [(3, ⟨true, false, 7, [w.v false], 0⟩)], 4⟩) _ ?_
  intro i hi ih s hs
  refine loop_s cd39 rfl rfl hs ?_
  have hlen := w_Frs_len (l := w.inbox)
  refine wa_ (wc_region (w_ (b_ (h := wo_nil (e_ (h := aft_normal (wa_ (?_))))))))
  refine c_ (h1 := ?_) (h2 := ?_)
  rotate_right 1
  focus
   intro c1
   first
   | exact dn c1
   | (have d1 := c1; try simp at d1
      refine wc_exit (?_)
      )
  rotate_right 1
  focus
   intro c1
   first
   | exact dn c1
   | (have d1 := c1; try simp at d1
      have hw := wrap_succ (i := i) (by omega); obtain ⟨b, hb, e1, g1⟩ := frs_cut (t := false) (l := w.inbox) (i := i) (by omega); have hbw := w_Frs_mem (List.mem_of_getElem? hb)
      refine wc_skip (?_)
      )
  all_goals first
  | refine aft_exit ?_
  | (refine aft_normal ?_
     refine wa_ (wc_block (wa_ (wc_region (w_ (x_ (h := w_ (l_ (h := w_ (al (h := w0 (s_ (h := wo_nil (e_ (h := aft_normal (wa_ (wa_ (?_)))))))))))))))))
     refine wc_region (w_ (m_ (h := w_ (m_ (h := w_ (l_ (h := w_ (ca (hc := e_frI2 pl b hp hk h0 (by omega)) (h := w_ (a_ (h := wo_nil (e_ (h := aft_normal (wa_ (wc_region (w_ (m_ (h := w_ (bE (h := ?_))))))))))))))))))))
     refine wo_nil (e_ (h := aft_normal (?_)))
     refine c_ (h1 := ?_) (h2 := ?_)
     rotate_right 1
     focus
      intro c2
      first
      | exact dn c2
      | (have d2 := c2; try simp at d2
         refine wc_skip (?_)
         )
     rotate_right 1
     focus
      intro c2
      first
      | exact dn c2
      | (have d2 := c2; try simp at d2
         refine wa_ (wc_region (w_ (m_ (h := w_ (a_ (h := wo_nil (e_ (h := aft_normal (wc_ret (?_))))))))))
         )
     all_goals first
     | refine aft_ret ?_
     | (refine aft_normal ?_
        refine wa_ (wc_region (w_ (f_ (h := w_ (l_ (h := w_ (bE (h := wo_nil (e_ (h := aft_normal (?_)))))))))))
        refine c_ (h1 := ?_) (h2 := ?_)
        rotate_right 1
        focus
         intro c3
         first
         | exact dn c3
         | (have d3 := c3; try simp at d3
            refine wc_skip (?_)
            )
        rotate_right 1
        focus
         intro c3
         first
         | exact dn c3
         | (have d3 := c3; try simp at d3
            refine wa_ (wc_region (w_ (a_ (h := wo_nil (e_ (h := aft_normal (wc_ret (?_))))))))
            )
        )
     all_goals first | refine blk_normal ?_ | refine blk_ret ?_
     all_goals first
     | refine aft_ret ?_
     | (refine aft_normal ?_
        refine wc_region (w_ (b_ (h := w_ (m_ (h := wo_nil (e_ (h := ?_)))))))
        )
     )
  all_goals first
  | (refine (ih (i + 1) (by omega) ?_ _ ?_).trans ?_; (focus (first | omega | (simp; done) | (simp; omega))); (focus (simp [normE, hw]; done)); (focus (rw [e1, inbR_0 d2 d3])))
  | (apply end_leaf (ex := Ext.ret) 3 (some [0, 1, 5, 6]); (focus (simp [normE]; rfl)); (focus (rw [e1, inbR_2 d2]; simp [d2])))
  | (apply end_leaf (ex := Ext.ret) 3 (some [0, 1, 5, 6]); (focus (simp [normE]; rfl)); (focus (rw [e1, inbR_1 d2 d3]; simp)))
  | (apply end_leaf (ex := (Ext.exit 0)) 3 (some [0, 1, 5, 6]); (focus (simp [normE]; rfl)); (focus (rw [List.drop_eq_nil_of_le (by omega)]; simp [inbR])))
theorem l_wk2 (pl : List Nd) (w : Wk) (hp : pl.length < 2000000) (hk : okN pl) (h0 : (lookN pl).2 = 0) (hx : w_Hds w.nodes < 2000000) (hl : w.nodes.length = pl.length) : ∀ i : Nat, (i ≤ w.nodes.length) → ∀ s, normE 3 (some [0, 1, 5, 59, 60, 61]) s = ⟨[(0, .lst false 0 (nds false 0 pl)), (1, .lst false 0 (ints (widN pl))), (5, .ptr 3 0 []), (59, .lst false 0 (hds false w.nodes)), (60, .int .i64 w.nodes.length), (61, .int .i64 i)], [(3, ⟨true, false, 7, [w.v false], 0⟩)], 4⟩ →
    oc.loop 39 18 s = some (if hdsR pl i (w.nodes.drop i) = 0 then (.exit 2, ⟨[(0, .lst false 0 (nds false 0 pl)), (1, .lst false 0 (ints (widN pl))), (5, .ptr 3 0 [])], [(3, ⟨true, false, 7, [w.v false], 0⟩)], 4⟩) else (.ret, ⟨[(0, .lst false 0 (nds false 0 pl)), (1, .lst false 0 (ints (widN pl))), (5, .ptr 3 0 []), (6, .int .i64 (hdsR pl i (w.nodes.drop i)))], [(3, ⟨true, false, 7, [w.v false], 0⟩)], 4⟩)) := by
  refine loop_ind (σ := Nat) (fun i => w.nodes.length - i) _ (fun i => ⟨[(0, .lst false 0 (nds false 0 pl)), (1, .lst false 0 (ints (widN pl))), (5, .ptr 3 0 []), (59, .lst false 0 (hds false w.nodes)), (60, .int .i64 w.nodes.length), (61, .int .i64 i)], [(3, ⟨true, false, 7, [w.v false], 0⟩)], 4⟩) _ ?_
  intro i hi ih s hs
  refine loop_s cd39 rfl rfl hs ?_
  have hlen := w_Hds_len (l := w.nodes)
  refine wa_ (wc_region (w_ (b_ (h := wo_nil (e_ (h := aft_normal (wa_ (?_))))))))
  refine c_ (h1 := ?_) (h2 := ?_)
  rotate_right 1
  focus
   intro c1
   first
   | exact dn c1
   | (have d1 := c1; try simp at d1
      refine wc_exit (?_)
      )
  rotate_right 1
  focus
   intro c1
   first
   | exact dn c1
   | (have d1 := c1; try simp at d1
      have hw := wrap_succ (i := i) (by omega); obtain ⟨b, hb, e1, g1⟩ := hds_cut (t := false) (l := w.nodes) (i := i) (by omega); have hbw := w_Hds_mem (List.mem_of_getElem? hb); have hnc : nodeC pl i = 0 := (by unfold nodeC; rw [if_pos h0, if_pos (by simp [inI]; omega)])
      refine wc_skip (?_)
      )
  all_goals first
  | refine aft_exit ?_
  | (refine aft_normal ?_
     refine wa_ (wc_block (wa_ (wc_region (w_ (m_ (h := w_ (x_ (h := w_ (l_ (h := w_ (al (h := w_ (a_ (h := w0 (s_ (h := wo_nil (e_ (h := aft_normal (?_)))))))))))))))))))
     refine wa_ (wc_region (w_ (m_ (h := w_ (m_ (h := w_ (m_ (h := w_ (l_ (h := w_ (ca (hc := e_heldI2 pl i b hp hk hnc (by omega)) (h := w_ (a_ (h := wo_nil (e_ (h := aft_normal (wa_ (wc_region (?_)))))))))))))))))))
     refine w_ (m_ (h := w_ (bE (h := wo_nil (e_ (h := aft_normal (?_)))))))
     refine c_ (h1 := ?_) (h2 := ?_)
     rotate_right 1
     focus
      intro c2
      first
      | exact dn c2
      | (have d2 := c2; try simp at d2
         refine wc_skip (?_)
         )
     rotate_right 1
     focus
      intro c2
      first
      | exact dn c2
      | (have d2 := c2; try simp at d2
         refine wa_ (wc_region (w_ (m_ (h := w_ (a_ (h := wo_nil (e_ (h := aft_normal (wc_ret (?_))))))))))
         )
     all_goals first | refine blk_normal ?_ | refine blk_ret ?_
     all_goals first
     | refine aft_ret ?_
     | (refine aft_normal ?_
        refine wc_region (w_ (b_ (h := w_ (m_ (h := wo_nil (e_ (h := ?_)))))))
        )
     )
  all_goals first
  | (refine (ih (i + 1) (by omega) ?_ _ ?_).trans ?_; (focus (first | omega | (simp; done) | (simp; omega))); (focus (simp [normE, hw]; done)); (focus (rw [e1, hdsR_0 d2])))
  | (apply end_leaf (ex := Ext.ret) 3 (some [0, 1, 5, 6]); (focus (simp [normE]; rfl)); (focus (rw [e1, hdsR_1 d2]; simp [d2])))
  | (apply end_leaf (ex := (Ext.exit 2)) 3 (some [0, 1, 5, 6]); (focus (simp [normE]; rfl)); (focus (rw [List.drop_eq_nil_of_le (by omega)]; simp [hdsR])))
theorem l_wk3 (pl : List Nd) (w : Wk) (hp : pl.length < 2000000) (hk : okN pl) (h0 : (lookN pl).2 = 0) (hx : w_Rls w.outs < 2000000) : ∀ i : Nat, (i ≤ w.outs.length) → ∀ s, normE 3 (some [0, 1, 92, 93, 94]) s = ⟨[(0, .lst false 0 (nds false 0 pl)), (1, .lst false 0 (ints (widN pl))), (92, .lst false 0 (rls false w.outs)), (93, .int .i64 w.outs.length), (94, .int .i64 i)], [], 3⟩ →
    oc.loop 39 27 s = some (if outR pl (w.outs.drop i) = 0 then (.exit 4, ⟨[], [], 3⟩) else (.ret, ⟨[(6, .int .i64 (outR pl (w.outs.drop i)))], [], 3⟩)) := by
  refine loop_ind (σ := Nat) (fun i => w.outs.length - i) _ (fun i => ⟨[(0, .lst false 0 (nds false 0 pl)), (1, .lst false 0 (ints (widN pl))), (92, .lst false 0 (rls false w.outs)), (93, .int .i64 w.outs.length), (94, .int .i64 i)], [], 3⟩) _ ?_
  intro i hi ih s hs
  refine loop_s cd39 rfl rfl hs ?_
  have hlen := w_Rls_len (l := w.outs)
  have hwl : IntKind.i64.wrap ((pl.length : Int) - 1) = pl.length - 1 := wrap_id (by omega) (by omega)
  have hll := (look_good hk h0).2.1
  refine wa_ (wc_region (w_ (b_ (h := wo_nil (e_ (h := aft_normal (wa_ (?_))))))))
  refine c_ (h1 := ?_) (h2 := ?_)
  rotate_right 1
  focus
   intro c1
   first
   | exact dn c1
   | (have d1 := c1; try simp at d1
      refine wc_exit (?_)
      )
  rotate_right 1
  focus
   intro c1
   first
   | exact dn c1
   | (have d1 := c1; try simp at d1
      have hw := wrap_succ (i := i) (by omega); obtain ⟨b, hb, e1, g1⟩ := rls_cut (t := false) (l := w.outs) (i := i) (by omega); have hbw := w_Rls_mem (List.mem_of_getElem? hb)
      refine wc_skip (?_)
      )
  all_goals first
  | refine aft_exit ?_
  | (refine aft_normal ?_
     refine wa_ (wc_block (wa_ (wc_region (w_ (x_ (h := w_ (l_ (h := w_ (al (h := w0 (s_ (h := wo_nil (e_ (h := aft_normal (wa_ (wa_ (?_)))))))))))))))))
     refine wc_draw (y_ (f_ (h := ax_ (h := y_ (l_ (h := ax_ (h := y_ (m_ (h := ax_ (h := y_ (ca (hc := e_sizeN _ _ (by simp; omega)) (h := ax_ (h := y_ (b_ (h := ax_ (h := y_ (ca (hc := e_in _ _ _) (h := ax_ (h := y_ (u_ (h := ax_ (h := y_ (m_ (h := ax_ (h := ?_)))))))))))))))))))))))))
     refine gw_ (h1 := ?_) (h2 := ?_)
     rotate_right 1
     focus
      intro c2
      first
      | exact dn c2
      | (have d2 := c2; try simp at d2
         refine gd_ (h := gd_ (h := gd_ (h := gd_ (h := gd_ (h := gd_ (h := gd_ (h := ?_)))))))
         )
     rotate_right 1
     focus
      intro c2
      first
      | exact dn c2
      | (have d2 := c2; try simp at d2
         have hin : 0 ≤ b.node ∧ b.node < pl.length := (by simp [inI, hwl] at d2; omega); obtain ⟨d, hd, g3⟩ := nd_at hin.1 hin.2
         refine g_ (h := y_ (m_ (h := ax_ (h := g_ (h := y_ (f_ (h := ax_ (h := g_ (h := y_ (l_ (h := ax_ (h := g_ (h := y_ (x_ (h := ax_ (h := g_ (h := y_ (f_ (h := ax_ (h := g_ (h := y_ (l_ (h := ax_ (h := g_ (h := y_ (bE (h := ax_ (h := ?_))))))))))))))))))))))))))))
         )
     all_goals
      refine y_ (pk (h := ax_ (h := y_ (m_ (h := ax_ (h := ?_))))))
      refine gw_ (h1 := ?_) (h2 := ?_)
      rotate_right 1
      focus
       intro c3
       first
       | exact dn c3
       | (have d3 := c3; try simp at d3
          refine gd_ (h := gd_ (h := gd_ (h := gd_ (h := ?_))))
          )
      rotate_right 1
      focus
       intro c3
       first
       | exact dn c3
       | (have d3 := c3; try simp at d3
          refine g_ (h := y_ (f_ (h := ax_ (h := g_ (h := y_ (l_ (h := ax_ (h := g_ (h := y_ (ca (hc := e_in _ _ _) (h := ax_ (h := g_ (h := y_ (u_ (h := ax_ (h := ?_))))))))))))))))
          )
      all_goals
       refine y_ (pk (h := ax_ (h := wo_nil (ed (h := ?_)))))
     all_goals first
     | (refine aft_normal ?_
        refine c_ (h1 := ?_) (h2 := ?_)
        rotate_right 1
        focus
         intro c4
         first
         | exact dn c4
         | (have d4 := c4; try simp at d4
            have hok : outOk pl b = true := (by clear ih hs hk hx hbw hlen; simp [outOk, ndAt_of hd, inI, hwl] at *; grind); have g4 := ints_ix (w := widN pl) (outOk_of hok).1 (by have := outOk_of hok; omega)
            refine wc_skip (?_)
            )
        rotate_right 1
        focus
         intro c4
         first
         | exact dn c4
         | (have d4 := c4; try simp at d4
            have hno : outOk pl b = false := (by clear ih hs hk hx hbw hlen; first | (simp [outOk, inI, hwl] at *; grind) | (simp [outOk, ndAt_of hd, inI, hwl] at *; grind))
            refine wa_ (wc_region (w_ (a_ (h := wo_nil (e_ (h := aft_normal (wc_ret (?_))))))))
            )
        )
     all_goals first
     | refine aft_ret ?_
     | (refine aft_normal ?_
        refine wa_ (wc_draw (y_ (f_ (h := ax_ (h := y_ (l_ (h := ax_ (h := y_ (m_ (h := ax_ (h := y_ (f_ (h := ax_ (h := y_ (l_ (h := ax_ (h := y_ (x_ (h := ax_ (h := y_ (l_ (h := ax_ (h := y_ (ca (hc := e_widI b.set _ (w_Rl_in (by omega))) (h := ax_ (h := y_ (a_ (h := ax_ (h := wo_nil (ed (h := ?_)))))))))))))))))))))))))))))))
        refine aft_normal (wa_ (wc_region (w_ (m_ (h := w_ (bE (h := wo_nil (e_ (h := aft_normal (?_))))))))))
        refine c_ (h1 := ?_) (h2 := ?_)
        rotate_right 1
        focus
         intro c5
         first
         | exact dn c5
         | (have d5 := c5; try simp at d5
            refine wc_skip (?_)
            )
        rotate_right 1
        focus
         intro c5
         first
         | exact dn c5
         | (have d5 := c5; try simp at d5
            refine wa_ (wc_region (w_ (m_ (h := w_ (a_ (h := wo_nil (e_ (h := aft_normal (wc_ret (?_))))))))))
            )
        )
     all_goals first | refine blk_normal ?_ | refine blk_ret ?_
     all_goals first
     | refine aft_ret ?_
     | (refine aft_normal ?_
        refine wc_region (w_ (b_ (h := w_ (m_ (h := wo_nil (e_ (h := ?_)))))))
        )
     )
  all_goals first
  | (refine (ih (i + 1) (by omega) ?_ _ ?_).trans ?_; (focus (first | omega | (simp; done) | (simp; omega))); (focus (simp [normE, hw]; done)); (focus (rw [e1, outR_0 hok d5])))
  | (apply end_leaf (ex := Ext.ret) 3 (some [6]); (focus (simp [normE]; rfl)); (focus (rw [e1, outR_1 hok d5]; simp [d5])))
  | (apply end_leaf (ex := Ext.ret) 3 (some [6]); (focus (simp [normE]; rfl)); (focus (rw [e1, outR_2 hno]; simp)))
  | (apply end_leaf (ex := (Ext.exit 4)) 3 (some [6]); (focus (simp [normE]; rfl)); (focus (rw [List.drop_eq_nil_of_le (by omega)]; simp [outR])))
theorem e_wkI2 (pl : List Nd) (w : Wk) (hp : pl.length < 2000000) (hk : okN pl) (h0 : (lookN pl).2 = 0) (hx : w_Wk w < 2000000) : oc.call 39 [.lst false 0 (nds false 0 pl), .lst false 0 (ints (widN pl)), w.v false] = some (.int .i64 (wkC pl w), []) := by
  refine fun_s rfl cd39 rfl rfl rfl (by simp; rfl) (by simp; rfl) ?_
  obtain ⟨hx1, hx2, hx3, hx4⟩ := w_Wk_in hx
  have hl1 := w_Frs_len (l := w.inbox)
  have hl3 := w_Hds_len (l := w.nodes)
  have hl4 := w_Rls_len (l := w.outs)
  refine wa_ (wc_region (w_ (bx (h := w_ (a_ (h := wo_nil (e_ (h := aft_normal (wa_ (wa_ (wc_region (w_ (f_ (h := w_ (l_ (h := w_ (le (h := ?_))))))))))))))))))
  refine w_ (b_ (h := w_ (m_ (h := ?_))))
  refine gw_ (h1 := ?_) (h2 := ?_)
  rotate_right 1
  focus
   intro c1
   first
   | exact dn c1
   | (have d1 := c1; try simp at d1
      refine go_ (h := go_ (h := go_ (h := go_ (h := ?_))))
      )
  rotate_right 1
  focus
   intro c1
   first
   | exact dn c1
   | (have d1 := c1; try simp at d1
      refine g_ (h := w_ (f_ (h := g_ (h := w_ (l_ (h := g_ (h := w_ (le (h := g_ (h := w_ (b_ (h := ?_))))))))))))
      )
  all_goals
   refine w_ (pk (h := wo_nil (e_ (h := ?_))))
  all_goals first
  | (refine aft_normal ?_
     refine c_ (h1 := ?_) (h2 := ?_)
     rotate_right 1
     focus
      intro c2
      first
      | exact dn c2
      | (have d2 := c2; try simp at d2
         refine wc_skip (?_)
         )
     rotate_right 1
     focus
      intro c2
      first
      | exact dn c2
      | (have d2 := c2; try simp at d2
         refine wa_ (wc_region (w_ (a_ (h := wo_nil (e_ (h := aft_normal (wc_ret (?_))))))))
         )
     )
  all_goals first
  | refine aft_ret ?_
  | (refine aft_normal ?_
     refine wa_ (wa_ (wc_region (w_ (f_ (h := w_ (l_ (h := w_ (le (h := w_ (m_ (h := wo_nil (e_ (h := aft_normal (wc_block (?_)))))))))))))))
     refine wc_loopI (l_wk1 pl w hp hk h0 hx1 0 (by omega) _ (by simp [normE])) ?_ ?_
     rotate_right 1
     focus
      intro c3
      first
      | exact dn c3
      | (have d3 := c3; try simp at d3
         skip
         )
     rotate_right 1
     focus
      intro c3
      first
      | exact dn c3
      | (have d3 := c3; try simp at d3
         skip
         )
     all_goals first | refine blk_ret ?_ | refine blk_exit ?_
     all_goals first
     | refine aft_ret ?_
     | (refine aft_normal ?_
        refine wa_ (wa_ (wc_region (w_ (m_ (h := w_ (f_ (h := w_ (l_ (h := w_ (ca (hc := e_ctsF pl w.counts hp) (h := w_ (a_ (h := wo_nil (e_ (h := aft_normal (wa_ (wc_region (?_))))))))))))))))))
        refine w_ (m_ (h := w_ (bE (h := wo_nil (e_ (h := aft_normal (?_)))))))
        refine c_ (h1 := ?_) (h2 := ?_)
        rotate_right 1
        focus
         intro c4
         first
         | exact dn c4
         | (have d4 := c4; try simp at d4
            refine wc_skip (?_)
            )
        rotate_right 1
        focus
         intro c4
         first
         | exact dn c4
         | (have d4 := c4; try simp at d4
            refine wa_ (wc_region (w_ (m_ (h := w_ (a_ (h := wo_nil (e_ (h := aft_normal (wc_ret (?_))))))))))
            )
        all_goals first
        | refine aft_ret ?_
        | (refine aft_normal ?_
           refine wa_ (wa_ (wc_region (w_ (f_ (h := w_ (l_ (h := w_ (le (h := w_ (m_ (h := w_ (le (h := w_ (bE (h := wo_nil (e_ (h := aft_normal (?_))))))))))))))))))
           refine c_ (h1 := ?_) (h2 := ?_)
           rotate_right 1
           focus
            intro c5
            first
            | exact dn c5
            | (have d5 := c5; try simp at d5
               refine wc_skip (?_)
               )
           rotate_right 1
           focus
            intro c5
            first
            | exact dn c5
            | (have d5 := c5; try simp at d5
               refine wa_ (wc_region (w_ (a_ (h := wo_nil (e_ (h := aft_normal (wc_ret (?_))))))))
               )
           all_goals first
           | refine aft_ret ?_
           | (refine aft_normal ?_
              refine wa_ (wa_ (wc_region (w_ (f_ (h := w_ (l_ (h := w_ (le (h := w_ (m_ (h := wo_nil (e_ (h := aft_normal (wc_block (?_)))))))))))))))
              refine wc_loopI (l_wk2 pl w hp hk h0 hx3 (by omega) 0 (by omega) _ (by simp [normE])) ?_ ?_
              rotate_right 1
              focus
               intro c6
               first
               | exact dn c6
               | (have d6 := c6; try simp at d6
                  skip
                  )
              rotate_right 1
              focus
               intro c6
               first
               | exact dn c6
               | (have d6 := c6; try simp at d6
                  skip
                  )
              all_goals first | refine blk_ret ?_ | refine blk_exit ?_
              all_goals first
              | refine aft_ret ?_
              | (refine aft_normal ?_
                 refine wa_ (wa_ (wc_region (w_ (f_ (h := w_ (l_ (h := w_ (ca (hc := e_in _ _ _) (h := w_ (u_ (h := w_ (m_ (h := ?_)))))))))))))
                 refine gw_ (h1 := ?_) (h2 := ?_)
                 rotate_right 1
                 focus
                  intro c7
                  first
                  | exact dn c7
                  | (have d7 := c7; try simp at d7
                     refine go_ (h := go_ (h := go_ (h := go_ (h := ?_))))
                     )
                 rotate_right 1
                 focus
                  intro c7
                  first
                  | exact dn c7
                  | (have d7 := c7; try simp at d7
                     refine g_ (h := w_ (f_ (h := g_ (h := w_ (l_ (h := g_ (h := w_ (bE (h := g_ (h := w_ (m_ (h := ?_))))))))))))
                     )
                 all_goals
                  first
                  | (skip
                     refine goN (h := goN (h := goN (h := goN (h := goN (h := ?_)))))
                     )
                  | (refine gw_ (h1 := ?_) (h2 := ?_)
                     rotate_right 1
                     focus
                      intro c8
                      first
                      | exact dn c8
                      | (have d8 := c8; try simp at d8
                         refine go_ (h := go_ (h := go_ (h := go_ (h := go_ (h := ?_)))))
                         )
                     rotate_right 1
                     focus
                      intro c8
                      first
                      | exact dn c8
                      | (have d8 := c8; try simp at d8
                         refine g_ (h := w_ (f_ (h := g_ (h := w_ (l_ (h := g_ (h := w_ (f_ (h := g_ (h := w_ (l_ (h := g_ (h := w_ (bE (h := ?_)))))))))))))))
                         )
                     )
                  all_goals
                   first
                   | (skip
                      refine g_ (h := w_ (pk (h := ?_)))
                      )
                   | (skip
                      refine go_ (h := ?_)
                      )
                   all_goals
                    refine w_ (pk (h := wo_nil (e_ (h := ?_))))
                 all_goals first
                 | (refine aft_normal ?_
                    refine c_ (h1 := ?_) (h2 := ?_)
                    rotate_right 1
                    focus
                     intro c9
                     first
                     | exact dn c9
                     | (have d9 := c9; try simp at d9
                        refine wc_skip (?_)
                        )
                    rotate_right 1
                    focus
                     intro c9
                     first
                     | exact dn c9
                     | (have d9 := c9; try simp at d9
                        refine wa_ (wc_region (w_ (a_ (h := wo_nil (e_ (h := aft_normal (wc_ret (?_))))))))
                        )
                    )
                 all_goals first
                 | refine aft_ret ?_
                 | (refine aft_normal ?_
                    refine wa_ (wa_ (wc_region (w_ (f_ (h := w_ (l_ (h := w_ (le (h := w_ (m_ (h := wo_nil (e_ (h := aft_normal (wc_block (?_)))))))))))))))
                    refine wc_loopI (l_wk3 pl w hp hk h0 hx4 0 (by omega) _ (by simp [normE])) ?_ ?_
                    rotate_right 1
                    focus
                     intro c10
                     first
                     | exact dn c10
                     | (have d10 := c10; try simp at d10
                        skip
                        )
                    rotate_right 1
                    focus
                     intro c10
                     first
                     | exact dn c10
                     | (have d10 := c10; try simp at d10
                        skip
                        )
                    all_goals first | refine blk_ret ?_ | refine blk_exit ?_
                    all_goals first
                    | refine aft_ret ?_
                    | (refine aft_normal ?_
                       refine wa_ (wc_region (w_ (a_ (h := wo_nil (e_ (h := aft_normal (wc_ret (?_))))))))
                       )
                    )
                 )
              )
           )
        )
     )
  all_goals (refine fin_ (hr := (res_tmp rfl res_nil)) (h := ?_); (focus (clear hk hx hx1 hx2 hx3 hx4; simp only [wkC]; simp at * <;> grind)))
def wkN (pl : List Nd) (w : Wk) : Int := if (lookN pl).2 = 0 then wkC pl w else (lookN pl).2
theorem e_workI (pl : List Nd) (w : Wk) (hp : pl.length < 2000000) (hk : okN pl) (hx : w_Wk w < 2000000) : oc.call 11 [.lst false 0 (nds false 0 pl), w.v false] = some (.int .i64 (wkN pl w), []) := by
  refine fun_s rfl cd11 rfl rfl rfl (by simp; rfl) (by simp; rfl) ?_
  refine wa_ (wc_region (w_ (bx (h := w_ (a_ (h := wo_nil (e_ (h := aft_normal (wa_ (wc_region (w_ (m_ (h := w_ (ca (hc := e_looked pl hp hk) (h := w_ (m_ (h := w_ (ex (h := ?_)))))))))))))))))))
  refine w_ (ex (h := w_ (a_ (h := w_ (a_ (h := wo_nil (e_ (h := aft_normal (wa_ (wa_ (wc_region (w_ (m_ (h := w_ (bE (h := wo_nil (e_ (h := aft_normal (?_)))))))))))))))))))
  refine c_ (h1 := ?_) (h2 := ?_)
  rotate_right 1
  focus
   intro c1
   first
   | exact dn c1
   | (have d1 := c1; try simp at d1
      refine wc_skip (?_)
      )
  rotate_right 1
  focus
   intro c1
   first
   | exact dn c1
   | (have d1 := c1; try simp at d1
      refine wa_ (wc_region (w_ (m_ (h := w_ (a_ (h := wo_nil (e_ (h := aft_normal (wc_ret (?_))))))))))
      )
  all_goals first
  | refine aft_ret ?_
  | (refine aft_normal ?_
     refine wa_ (wc_region (w_ (m_ (h := w_ (m_ (h := w_ (l_ (h := w_ (ca (hc := e_wkI2 pl w hp hk d1 hx) (h := w_ (a_ (h := wo_nil (e_ (h := aft_normal (wc_ret (?_))))))))))))))))
     )
  all_goals (refine fin_ (hr := (res_tmp rfl res_nil)) (h := ?_); (focus (clear hk; simp [wkN, *])))
theorem l_wkS1 (pl : List Nd) (w : Wk) (hp : pl.length < 2000000) (hk : okN pl) (h0 : (lookN pl).2 = 0) (hx : w_Frs w.inbox < 2000000) : ∀ i : Nat, (i ≤ w.inbox.length) → ∀ s, normE 2 (some [0, 3, 6]) s = ⟨[(0, .lst false 0 (nds false 0 pl)), (3, .ptr 2 0 []), (6, .int .i64 i)], [(2, ⟨true, false, 7, [w.v false], 0⟩)], 3⟩ →
    oc.loop 8 7 s = some (if inbR pl (w.inbox.drop i) = 0 then (.exit 0, ⟨[(0, .lst false 0 (nds false 0 pl)), (3, .ptr 2 0 [])], [(2, ⟨true, false, 7, [w.v false], 0⟩)], 3⟩) else (.ret, ⟨[(0, .lst false 0 (nds false 0 pl)), (3, .ptr 2 0 []), (4, .int .i64 (inbR pl (w.inbox.drop i)))], [(2, ⟨true, false, 7, [w.v false], 0⟩)], 3⟩)) := by
  refine loop_ind (σ := Nat) (fun i => w.inbox.length - i) _ (fun i => ⟨[(0, .lst false 0 (nds false 0 pl)), (3, .ptr 2 0 []), (6, .int .i64 i)], [(2, ⟨true, false, 7, [w.v false], 0⟩)], 3⟩) _ ?_
  intro i hi ih s hs
  refine loop_s cd8 rfl rfl hs ?_
  have hlen := w_Frs_len (l := w.inbox)
  refine wa_ (wa_ (wc_region (w_ (m_ (h := w_ (f_ (h := w_ (l_ (h := w_ (le (h := w_ (b_ (h := wo_nil (e_ (h := aft_normal (?_))))))))))))))))
  refine c_ (h1 := ?_) (h2 := ?_)
  rotate_right 1
  focus
   intro c1
   first
   | exact dn c1
   | (have d1 := c1; try simp at d1
      refine wc_exit (?_)
      )
  rotate_right 1
  focus
   intro c1
   first
   | exact dn c1
   | (have d1 := c1; try simp at d1
      have hw := wrap_succ (i := i) (by omega); obtain ⟨b, hb, e1, g1⟩ := frs_cut (t := false) (l := w.inbox) (i := i) (by omega); have hbw := w_Frs_mem (List.mem_of_getElem? hb); have hfr : frN0 pl b = frC pl b := (by unfold frN0; rw [if_pos h0])
      refine wc_skip (?_)
      )
  all_goals first
  | refine aft_exit ?_
  | (refine aft_normal ?_
     refine wa_ (wc_block (wa_ (wa_ (wc_region (w_ (m_ (h := w_ (f_ (h := w_ (l_ (h := w_ (m_ (h := w_ (x_ (h := w_ (l_ (h := w_ (ca (hc := hfr ▸ e_frameS pl b hp hk (by omega)) (h := ?_)))))))))))))))))))
     refine w_ (a_ (h := wo_nil (e_ (h := aft_normal (wa_ (wc_region (w_ (m_ (h := w_ (bE (h := wo_nil (e_ (h := aft_normal (?_))))))))))))))
     refine c_ (h1 := ?_) (h2 := ?_)
     rotate_right 1
     focus
      intro c2
      first
      | exact dn c2
      | (have d2 := c2; try simp at d2
         refine wc_skip (?_)
         )
     rotate_right 1
     focus
      intro c2
      first
      | exact dn c2
      | (have d2 := c2; try simp at d2
         refine wa_ (wc_region (w_ (m_ (h := w_ (a_ (h := wo_nil (e_ (h := aft_normal (wc_ret (?_))))))))))
         )
     all_goals first
     | refine aft_ret ?_
     | (refine aft_normal ?_
        refine wa_ (wc_region (w_ (f_ (h := w_ (l_ (h := w_ (m_ (h := w_ (x_ (h := w_ (f_ (h := w_ (l_ (h := w_ (bE (h := wo_nil (e_ (h := aft_normal (?_)))))))))))))))))))
        refine c_ (h1 := ?_) (h2 := ?_)
        rotate_right 1
        focus
         intro c3
         first
         | exact dn c3
         | (have d3 := c3; try simp at d3
            refine wc_skip (?_)
            )
        rotate_right 1
        focus
         intro c3
         first
         | exact dn c3
         | (have d3 := c3; try simp at d3
            refine wa_ (wc_region (w_ (a_ (h := wo_nil (e_ (h := aft_normal (wc_ret (?_))))))))
            )
        )
     all_goals first | refine blk_normal ?_ | refine blk_ret ?_
     all_goals first
     | refine aft_ret ?_
     | (refine aft_normal ?_
        refine wc_region (w_ (m_ (h := w_ (b_ (h := w_ (a_ (h := wo_nil (e_ (h := ?_)))))))))
        )
     )
  all_goals first
  | (refine (ih (i + 1) (by omega) ?_ _ ?_).trans ?_; (focus (first | omega | (simp; done) | (simp; omega))); (focus (simp [normE, hw]; done)); (focus (rw [e1, inbR_0 d2 d3])))
  | (apply end_leaf (ex := Ext.ret) 2 (some [0, 3, 4]); (focus (simp [normE]; rfl)); (focus (rw [e1, inbR_2 d2]; simp [d2])))
  | (apply end_leaf (ex := Ext.ret) 2 (some [0, 3, 4]); (focus (simp [normE]; rfl)); (focus (rw [e1, inbR_1 d2 d3]; simp)))
  | (apply end_leaf (ex := (Ext.exit 0)) 2 (some [0, 3, 4]); (focus (simp [normE]; rfl)); (focus (rw [List.drop_eq_nil_of_le (by omega)]; simp [inbR])))
theorem l_wkS2 (pl : List Nd) (w : Wk) (hp : pl.length < 2000000) (hk : okN pl) (h0 : (lookN pl).2 = 0) (hx : w_Hds w.nodes < 2000000) (hl : w.nodes.length = pl.length) : ∀ i : Nat, (i ≤ w.nodes.length) → ∀ s, normE 2 (some [0, 3, 9]) s = ⟨[(0, .lst false 0 (nds false 0 pl)), (3, .ptr 2 0 []), (9, .int .i64 i)], [(2, ⟨true, false, 7, [w.v false], 0⟩)], 3⟩ →
    oc.loop 8 20 s = some (if hdsR pl i (w.nodes.drop i) = 0 then (.exit 2, ⟨[(0, .lst false 0 (nds false 0 pl)), (3, .ptr 2 0 [])], [(2, ⟨true, false, 7, [w.v false], 0⟩)], 3⟩) else (.ret, ⟨[(0, .lst false 0 (nds false 0 pl)), (3, .ptr 2 0 []), (4, .int .i64 (hdsR pl i (w.nodes.drop i)))], [(2, ⟨true, false, 7, [w.v false], 0⟩)], 3⟩)) := by
  refine loop_ind (σ := Nat) (fun i => w.nodes.length - i) _ (fun i => ⟨[(0, .lst false 0 (nds false 0 pl)), (3, .ptr 2 0 []), (9, .int .i64 i)], [(2, ⟨true, false, 7, [w.v false], 0⟩)], 3⟩) _ ?_
  intro i hi ih s hs
  refine loop_s cd8 rfl rfl hs ?_
  have hlen := w_Hds_len (l := w.nodes)
  refine wa_ (wa_ (wc_region (w_ (m_ (h := w_ (m_ (h := w_ (le (h := w_ (b_ (h := wo_nil (e_ (h := aft_normal (?_))))))))))))))
  refine c_ (h1 := ?_) (h2 := ?_)
  rotate_right 1
  focus
   intro c1
   first
   | exact dn c1
   | (have d1 := c1; try simp at d1
      refine wc_exit (?_)
      )
  rotate_right 1
  focus
   intro c1
   first
   | exact dn c1
   | (have d1 := c1; try simp at d1
      have hw := wrap_succ (i := i) (by omega); obtain ⟨b, hb, e1, g1⟩ := hds_cut (t := false) (l := w.nodes) (i := i) (by omega); have hbw := w_Hds_mem (List.mem_of_getElem? hb); have hnc : nodeC pl i = 0 := (by unfold nodeC; rw [if_pos h0, if_pos (by simp [inI]; omega)]); have hhd : heldN pl i b = heldC pl i b := (by unfold heldN; rw [if_pos hnc])
      refine wc_skip (?_)
      )
  all_goals first
  | refine aft_exit ?_
  | (refine aft_normal ?_
     refine wa_ (wc_block (wa_ (wc_region (w_ (m_ (h := w_ (m_ (h := w_ (f_ (h := w_ (l_ (h := w_ (m_ (h := w_ (x_ (h := w_ (l_ (h := w_ (ca (hc := hhd ▸ e_heldS pl i b hp hk (by omega)) (h := ?_))))))))))))))))))))
     refine w_ (a_ (h := wo_nil (e_ (h := aft_normal (wa_ (wc_region (w_ (m_ (h := w_ (bE (h := wo_nil (e_ (h := aft_normal (?_))))))))))))))
     refine c_ (h1 := ?_) (h2 := ?_)
     rotate_right 1
     focus
      intro c2
      first
      | exact dn c2
      | (have d2 := c2; try simp at d2
         refine wc_skip (?_)
         )
     rotate_right 1
     focus
      intro c2
      first
      | exact dn c2
      | (have d2 := c2; try simp at d2
         refine wa_ (wc_region (w_ (m_ (h := w_ (a_ (h := wo_nil (e_ (h := aft_normal (wc_ret (?_))))))))))
         )
     all_goals first | refine blk_normal ?_ | refine blk_ret ?_
     all_goals first
     | refine aft_ret ?_
     | (refine aft_normal ?_
        refine wc_region (w_ (m_ (h := w_ (b_ (h := w_ (a_ (h := wo_nil (e_ (h := ?_)))))))))
        )
     )
  all_goals first
  | (refine (ih (i + 1) (by omega) ?_ _ ?_).trans ?_; (focus (first | omega | (simp; done) | (simp; omega))); (focus (simp [normE, hw]; done)); (focus (rw [e1, hdsR_0 d2])))
  | (apply end_leaf (ex := Ext.ret) 2 (some [0, 3, 4]); (focus (simp [normE]; rfl)); (focus (rw [e1, hdsR_1 d2]; simp [d2])))
  | (apply end_leaf (ex := (Ext.exit 2)) 2 (some [0, 3, 4]); (focus (simp [normE]; rfl)); (focus (rw [List.drop_eq_nil_of_le (by omega)]; simp [hdsR])))
theorem l_wkS3 (pl : List Nd) (w : Wk) (hp : pl.length < 2000000) (hk : okN pl) (h0 : (lookN pl).2 = 0) (hx : w_Rls w.outs < 2000000) : ∀ i : Nat, (i ≤ w.outs.length) → ∀ s, normE 2 (some [0, 3, 5]) s = ⟨[(0, .lst false 0 (nds false 0 pl)), (3, .ptr 2 0 []), (5, .int .i64 i)], [(2, ⟨true, false, 7, [w.v false], 0⟩)], 3⟩ →
    oc.loop 32 2 s = some (if outR pl (w.outs.drop i) = 0 then (.exit 0, ⟨[], [], 2⟩) else (.ret, ⟨[(4, .int .i64 (outR pl (w.outs.drop i)))], [], 2⟩)) := by
  refine loop_ind (σ := Nat) (fun i => w.outs.length - i) _ (fun i => ⟨[(0, .lst false 0 (nds false 0 pl)), (3, .ptr 2 0 []), (5, .int .i64 i)], [(2, ⟨true, false, 7, [w.v false], 0⟩)], 3⟩) _ ?_
  intro i hi ih s hs
  refine loop_s cd32 rfl rfl hs ?_
  have hlen := w_Rls_len (l := w.outs)
  have hwl : IntKind.i64.wrap ((pl.length : Int) - 1) = pl.length - 1 := wrap_id (by omega) (by omega)
  have hll := (look_good hk h0).2.1
  refine wa_ (wa_ (wc_region (w_ (m_ (h := w_ (f_ (h := w_ (l_ (h := w_ (le (h := w_ (b_ (h := wo_nil (e_ (h := aft_normal (?_))))))))))))))))
  refine c_ (h1 := ?_) (h2 := ?_)
  rotate_right 1
  focus
   intro c1
   first
   | exact dn c1
   | (have d1 := c1; try simp at d1
      refine wc_exit (?_)
      )
  rotate_right 1
  focus
   intro c1
   first
   | exact dn c1
   | (have d1 := c1; try simp at d1
      have hw := wrap_succ (i := i) (by omega); obtain ⟨b, hb, e1, g1⟩ := rls_cut (t := false) (l := w.outs) (i := i) (by omega); have hbw := w_Rls_mem (List.mem_of_getElem? hb)
      refine wc_skip (?_)
      )
  all_goals first
  | refine aft_exit ?_
  | (refine aft_normal ?_
     refine wa_ (wc_block (wa_ (wc_region (w_ (f_ (h := w_ (l_ (h := w_ (m_ (h := w_ (x_ (h := w_ (l_ (h := w_ (al (h := w0 (s_ (h := wo_nil (e_ (h := ?_))))))))))))))))))))
     refine aft_normal (wa_ (wa_ (wc_region (w_ (f_ (h := w_ (l_ (h := w_ (m_ (h := w_ (le (h := w_ (b_ (h := w_ (ca (hc := e_l1In _ _ _) (h := w_ (u_ (h := w_ (m_ (h := ?_))))))))))))))))))))
     refine gw_ (h1 := ?_) (h2 := ?_)
     rotate_right 1
     focus
      intro c2
      first
      | exact dn c2
      | (have d2 := c2; try simp at d2
         refine go_ (h := go_ (h := go_ (h := go_ (h := go_ (h := go_ (h := go_ (h := ?_)))))))
         )
     rotate_right 1
     focus
      intro c2
      first
      | exact dn c2
      | (have d2 := c2; try simp at d2
         have hin : 0 ≤ b.node ∧ b.node < pl.length := (by simp [inI, hwl] at d2; omega); obtain ⟨d, hd, g3⟩ := nd_at hin.1 hin.2
         refine g_ (h := w_ (m_ (h := g_ (h := w_ (f_ (h := g_ (h := w_ (l_ (h := g_ (h := w_ (x_ (h := g_ (h := w_ (f_ (h := g_ (h := w_ (l_ (h := g_ (h := w_ (bE (h := ?_)))))))))))))))))))))
         )
     all_goals
      refine w_ (pk (h := w_ (m_ (h := ?_))))
      refine gw_ (h1 := ?_) (h2 := ?_)
      rotate_right 1
      focus
       intro c3
       first
       | exact dn c3
       | (have d3 := c3; try simp at d3
          refine go_ (h := go_ (h := go_ (h := go_ (h := ?_))))
          )
      rotate_right 1
      focus
       intro c3
       first
       | exact dn c3
       | (have d3 := c3; try simp at d3
          refine g_ (h := w_ (f_ (h := g_ (h := w_ (l_ (h := g_ (h := w_ (ca (hc := e_l1In _ _ _) (h := g_ (h := w_ (u_ (h := ?_))))))))))))
          )
      all_goals
       refine w_ (pk (h := wo_nil (e_ (h := ?_))))
     all_goals first
     | (refine aft_normal ?_
        refine c_ (h1 := ?_) (h2 := ?_)
        rotate_right 1
        focus
         intro c4
         first
         | exact dn c4
         | (have d4 := c4; try simp at d4
            have hok : outOk pl b = true := (by clear ih hs hk hx hbw hlen; simp [outOk, ndAt_of hd, inI, hwl] at *; grind)
            refine wc_skip (?_)
            )
        rotate_right 1
        focus
         intro c4
         first
         | exact dn c4
         | (have d4 := c4; try simp at d4
            have hno : outOk pl b = false := (by clear ih hs hk hx hbw hlen; first | (simp [outOk, inI, hwl] at *; grind) | (simp [outOk, ndAt_of hd, inI, hwl] at *; grind))
            refine wa_ (wc_region (w_ (a_ (h := wo_nil (e_ (h := aft_normal (wc_ret (?_))))))))
            )
        )
     all_goals first
     | refine aft_ret ?_
     | (refine aft_normal ?_
        refine wa_ (wc_draw (y_ (f_ (h := ax_ (h := y_ (l_ (h := ax_ (h := y_ (m_ (h := ax_ (h := y_ (f_ (h := ax_ (h := y_ (l_ (h := ax_ (h := y_ (ca (hc := e_l3WidthI pl (widN pl) hp (look_good hk h0).1 b.node (outOk_of hok).1 (by have := outOk_of hok; omega)) (h := ax_ (h := y_ (ca (hc := e_widS b.set _ (w_Rl_in (by omega))) (h := ax_ (h := y_ (a_ (h := ax_ (h := wo_nil (ed (h := aft_normal (?_)))))))))))))))))))))))))))))
        refine wa_ (wc_region (w_ (m_ (h := w_ (bE (h := wo_nil (e_ (h := aft_normal (?_)))))))))
        refine c_ (h1 := ?_) (h2 := ?_)
        rotate_right 1
        focus
         intro c5
         first
         | exact dn c5
         | (have d5 := c5; try simp at d5
            refine wc_skip (?_)
            )
        rotate_right 1
        focus
         intro c5
         first
         | exact dn c5
         | (have d5 := c5; try simp at d5
            refine wa_ (wc_region (w_ (m_ (h := w_ (a_ (h := wo_nil (e_ (h := aft_normal (wc_ret (?_))))))))))
            )
        )
     all_goals first | refine blk_normal ?_ | refine blk_ret ?_
     all_goals first
     | refine aft_ret ?_
     | (refine aft_normal ?_
        refine wc_region (w_ (m_ (h := w_ (b_ (h := w_ (a_ (h := wo_nil (e_ (h := ?_)))))))))
        )
     )
  all_goals first
  | (refine (ih (i + 1) (by omega) ?_ _ ?_).trans ?_; (focus (first | omega | (simp; done) | (simp; omega))); (focus (simp [normE, hw]; done)); (focus (rw [e1, outR_0 hok d5])))
  | (apply end_leaf (ex := Ext.ret) 2 (some [4]); (focus (simp [normE]; rfl)); (focus (rw [e1, outR_1 hok d5]; simp [d5])))
  | (apply end_leaf (ex := Ext.ret) 2 (some [4]); (focus (simp [normE]; rfl)); (focus (rw [e1, outR_2 hno]; simp)))
  | (apply end_leaf (ex := (Ext.exit 0)) 2 (some [4]); (focus (simp [normE]; rfl)); (focus (rw [List.drop_eq_nil_of_le (by omega)]; simp [outR])))
theorem e_outs (pl : List Nd) (w : Wk) (hp : pl.length < 2000000) (hk : okN pl) (h0 : (lookN pl).2 = 0) (hx : w_Rls w.outs < 2000000) : oc.call 32 [.lst false 0 (nds false 0 pl), w.v false] = some (.int .i64 (outR pl w.outs), []) := by
  refine fun_s rfl cd32 rfl rfl rfl (by simp; rfl) (by simp; rfl) ?_
  refine wa_ (wc_region (w_ (bx (h := w_ (a_ (h := wo_nil (e_ (h := aft_normal (wa_ (wa_ (wc_region (w_ (a_ (h := wo_nil (e_ (h := aft_normal (?_)))))))))))))))))
  refine wc_block (?_)
  refine wc_loopI (l_wkS3 pl w hp hk h0 hx 0 (by omega) _ (by simp [normE])) ?_ ?_
  rotate_right 1
  focus
   intro c1
   first
   | exact dn c1
   | (have d1 := c1; try simp at d1
      skip
      )
  rotate_right 1
  focus
   intro c1
   first
   | exact dn c1
   | (have d1 := c1; try simp at d1
      skip
      )
  all_goals first | refine blk_ret ?_ | refine blk_exit ?_
  all_goals first
  | refine aft_ret ?_
  | (refine aft_normal ?_
     refine wa_ (wc_region (w_ (a_ (h := wo_nil (e_ (h := aft_normal (wc_ret (?_))))))))
     )
  all_goals (refine fin_ (hr := (res_tmp rfl res_nil)) (h := ?_); (focus (simp_all)))
theorem e_workS (pl : List Nd) (w : Wk) (hp : pl.length < 2000000) (hk : okN pl) (hx : w_Wk w < 2000000) : oc.call 8 [.lst false 0 (nds false 0 pl), w.v false] = some (.int .i64 (wkN pl w), []) := by
  refine fun_s rfl cd8 rfl rfl rfl (by simp; rfl) (by simp; rfl) ?_
  obtain ⟨hx1, hx2, hx3, hx4⟩ := w_Wk_in hx
  have hl1 := w_Frs_len (l := w.inbox)
  have hl3 := w_Hds_len (l := w.nodes)
  have hl4 := w_Rls_len (l := w.outs)
  refine wa_ (wc_region (w_ (bx (h := w_ (a_ (h := wo_nil (e_ (h := aft_normal (wa_ (wa_ (wc_region (w_ (m_ (h := w_ (ca (hc := e_planS pl hp hk) (h := w_ (a_ (h := ?_))))))))))))))))))
  refine wo_nil (e_ (h := aft_normal (wa_ (wc_region (w_ (m_ (h := w_ (bE (h := wo_nil (e_ (h := aft_normal (?_))))))))))))
  refine c_ (h1 := ?_) (h2 := ?_)
  rotate_right 1
  focus
   intro c1
   first
   | exact dn c1
   | (have d1 := c1; try simp at d1
      have hcn : ctsN pl w.counts = ctsF pl w.counts := (by unfold ctsN; rw [if_pos d1])
      refine wc_skip (?_)
      )
  rotate_right 1
  focus
   intro c1
   first
   | exact dn c1
   | (have d1 := c1; try simp at d1
      refine wa_ (wc_region (w_ (m_ (h := w_ (a_ (h := wo_nil (e_ (h := aft_normal (wc_ret (?_))))))))))
      )
  all_goals first
  | refine aft_ret ?_
  | (refine aft_normal ?_
     refine wa_ (wa_ (wc_region (w_ (f_ (h := w_ (l_ (h := w_ (le (h := w_ (b_ (h := w_ (m_ (h := ?_)))))))))))))
     refine gw_ (h1 := ?_) (h2 := ?_)
     rotate_right 1
     focus
      intro c2
      first
      | exact dn c2
      | (have d2 := c2; try simp at d2
         refine go_ (h := go_ (h := go_ (h := go_ (h := ?_))))
         )
     rotate_right 1
     focus
      intro c2
      first
      | exact dn c2
      | (have d2 := c2; try simp at d2
         refine g_ (h := w_ (f_ (h := g_ (h := w_ (l_ (h := g_ (h := w_ (le (h := g_ (h := w_ (b_ (h := ?_))))))))))))
         )
     all_goals
      refine w_ (pk (h := wo_nil (e_ (h := ?_))))
     all_goals first
     | (refine aft_normal ?_
        refine c_ (h1 := ?_) (h2 := ?_)
        rotate_right 1
        focus
         intro c3
         first
         | exact dn c3
         | (have d3 := c3; try simp at d3
            refine wc_skip (?_)
            )
        rotate_right 1
        focus
         intro c3
         first
         | exact dn c3
         | (have d3 := c3; try simp at d3
            refine wa_ (wc_region (w_ (a_ (h := wo_nil (e_ (h := aft_normal (wc_ret (?_))))))))
            )
        )
     all_goals first
     | refine aft_ret ?_
     | (refine aft_normal ?_
        refine wa_ (wa_ (wc_region (w_ (a_ (h := wo_nil (e_ (h := aft_normal (wc_block (?_)))))))))
        refine wc_loopI (l_wkS1 pl w hp hk d1 hx1 0 (by omega) _ (by simp [normE])) ?_ ?_
        rotate_right 1
        focus
         intro c4
         first
         | exact dn c4
         | (have d4 := c4; try simp at d4
            skip
            )
        rotate_right 1
        focus
         intro c4
         first
         | exact dn c4
         | (have d4 := c4; try simp at d4
            skip
            )
        all_goals first | refine blk_ret ?_ | refine blk_exit ?_
        all_goals first
        | refine aft_ret ?_
        | (refine aft_normal ?_
           refine wa_ (wa_ (wc_region (w_ (m_ (h := w_ (f_ (h := w_ (l_ (h := w_ (ca (hc := hcn ▸ e_ctsFS pl w.counts hp hk) (h := w_ (a_ (h := wo_nil (e_ (h := aft_normal (wa_ (wc_region (?_))))))))))))))))))
           refine w_ (m_ (h := w_ (bE (h := wo_nil (e_ (h := aft_normal (?_)))))))
           refine c_ (h1 := ?_) (h2 := ?_)
           rotate_right 1
           focus
            intro c5
            first
            | exact dn c5
            | (have d5 := c5; try simp at d5
               refine wc_skip (?_)
               )
           rotate_right 1
           focus
            intro c5
            first
            | exact dn c5
            | (have d5 := c5; try simp at d5
               refine wa_ (wc_region (w_ (m_ (h := w_ (a_ (h := wo_nil (e_ (h := aft_normal (wc_ret (?_))))))))))
               )
           all_goals first
           | refine aft_ret ?_
           | (refine aft_normal ?_
              refine wa_ (wa_ (wc_region (w_ (f_ (h := w_ (l_ (h := w_ (le (h := w_ (m_ (h := w_ (le (h := w_ (bE (h := wo_nil (e_ (h := aft_normal (?_))))))))))))))))))
              refine c_ (h1 := ?_) (h2 := ?_)
              rotate_right 1
              focus
               intro c6
               first
               | exact dn c6
               | (have d6 := c6; try simp at d6
                  refine wc_skip (?_)
                  )
              rotate_right 1
              focus
               intro c6
               first
               | exact dn c6
               | (have d6 := c6; try simp at d6
                  refine wa_ (wc_region (w_ (a_ (h := wo_nil (e_ (h := aft_normal (wc_ret (?_))))))))
                  )
              all_goals first
              | refine aft_ret ?_
              | (refine aft_normal ?_
                 refine wa_ (wa_ (wc_region (w_ (a_ (h := wo_nil (e_ (h := aft_normal (wc_block (?_)))))))))
                 refine wc_loopI (l_wkS2 pl w hp hk d1 hx3 (by omega) 0 (by omega) _ (by simp [normE])) ?_ ?_
                 rotate_right 1
                 focus
                  intro c7
                  first
                  | exact dn c7
                  | (have d7 := c7; try simp at d7
                     skip
                     )
                 rotate_right 1
                 focus
                  intro c7
                  first
                  | exact dn c7
                  | (have d7 := c7; try simp at d7
                     skip
                     )
                 all_goals first | refine blk_ret ?_ | refine blk_exit ?_
                 all_goals first
                 | refine aft_ret ?_
                 | (refine aft_normal ?_
                    refine wa_ (wa_ (wc_region (w_ (f_ (h := w_ (l_ (h := w_ (ca (hc := e_l1In _ _ _) (h := w_ (u_ (h := w_ (m_ (h := ?_)))))))))))))
                    refine gw_ (h1 := ?_) (h2 := ?_)
                    rotate_right 1
                    focus
                     intro c8
                     first
                     | exact dn c8
                     | (have d8 := c8; try simp at d8
                        refine go_ (h := go_ (h := go_ (h := go_ (h := ?_))))
                        )
                    rotate_right 1
                    focus
                     intro c8
                     first
                     | exact dn c8
                     | (have d8 := c8; try simp at d8
                        refine g_ (h := w_ (f_ (h := g_ (h := w_ (l_ (h := g_ (h := w_ (bE (h := g_ (h := w_ (m_ (h := ?_))))))))))))
                        )
                    all_goals
                     first
                     | (skip
                        refine goN (h := goN (h := goN (h := goN (h := goN (h := ?_)))))
                        )
                     | (refine gw_ (h1 := ?_) (h2 := ?_)
                        rotate_right 1
                        focus
                         intro c9
                         first
                         | exact dn c9
                         | (have d9 := c9; try simp at d9
                            refine go_ (h := go_ (h := go_ (h := go_ (h := go_ (h := ?_)))))
                            )
                        rotate_right 1
                        focus
                         intro c9
                         first
                         | exact dn c9
                         | (have d9 := c9; try simp at d9
                            refine g_ (h := w_ (f_ (h := g_ (h := w_ (l_ (h := g_ (h := w_ (f_ (h := g_ (h := w_ (l_ (h := g_ (h := w_ (bE (h := ?_)))))))))))))))
                            )
                        )
                     all_goals
                      first
                      | (skip
                         refine g_ (h := w_ (pk (h := ?_)))
                         )
                      | (skip
                         refine go_ (h := ?_)
                         )
                      all_goals
                       refine w_ (pk (h := wo_nil (e_ (h := ?_))))
                    all_goals first
                    | (refine aft_normal ?_
                       refine c_ (h1 := ?_) (h2 := ?_)
                       rotate_right 1
                       focus
                        intro c10
                        first
                        | exact dn c10
                        | (have d10 := c10; try simp at d10
                           refine wc_skip (?_)
                           )
                       rotate_right 1
                       focus
                        intro c10
                        first
                        | exact dn c10
                        | (have d10 := c10; try simp at d10
                           refine wa_ (wc_region (w_ (a_ (h := wo_nil (e_ (h := aft_normal (wc_ret (?_))))))))
                           )
                       )
                    all_goals first
                    | refine aft_ret ?_
                    | (refine aft_normal ?_
                       refine wa_ (wc_region (w_ (m_ (h := w_ (l_ (h := w_ (ca (hc := e_outs pl w hp hk d1 hx4) (h := w_ (a_ (h := wo_nil (e_ (h := aft_normal (wc_ret (?_))))))))))))))
                       )
                    )
                 )
              )
           )
        )
     )
  all_goals (refine fin_ (hr := (res_tmp rfl res_nil)) (h := ?_); (focus (clear hk hx hx1 hx2 hx3 hx4; simp only [wkN, wkC]; simp at * <;> grind)))
theorem law_worker (pl : List Nd) (w : Wk) (ho : okB pl) (hx : bg_Wk w) : oc.call 3 [.lst false 0 (nds false 0 pl), w.v false] = some (.bool true, []) := by
  refine fun_s rfl cd3 rfl rfl rfl (by simp; rfl) (by simp; rfl) ?_
  refine wa_ (wc_region (w_ (bx (h := w_ (a_ (h := wo_nil (e_ (h := aft_normal (wa_ (wc_region (w_ (a_ (h := wo_nil (e_ (h := aft_normal (wa_ (?_)))))))))))))))))
  refine wc_region (w_ (m_ (h := w_ (m_ (h := w_ (ca (hc := e_szNS pl 0 1048576 ho (by omega) (by omega)) (h := w_ (a_ (h := wo_nil (e_ (h := aft_normal (wa_ (wa_ (wc_region (w_ (m_ (h := w_ (b_ (h := ?_)))))))))))))))))))
  refine wo_nil (e_ (h := aft_normal (?_)))
  refine c_ (h1 := ?_) (h2 := ?_)
  rotate_right 1
  focus
   intro c1
   first
   | exact dn c1
   | (have d1 := c1; try simp at d1
      obtain ⟨h1, h2, h3⟩ := szP_ok (l := pl) (a := 1048576) (by omega) (by omega)
      refine wc_skip (?_)
      )
  rotate_right 1
  focus
   intro c1
   first
   | exact dn c1
   | (have d1 := c1; try simp at d1
      refine wa_ (wc_region (w_ (a_ (h := wo_nil (e_ (h := aft_normal (wc_ret (?_))))))))
      )
  all_goals first
  | refine aft_ret ?_
  | (refine aft_normal ?_
     refine wa_ (wc_region (w_ (l_ (h := w_ (m_ (h := w_ (ca (hc := sz_Wk w (szP pl 1048576) hx (by omega) (by omega)) (h := w_ (a_ (h := wo_nil (e_ (h := aft_normal (wa_ (wa_ (wc_region (w_ (m_ (h := ?_))))))))))))))))))
     refine w_ (b_ (h := wo_nil (e_ (h := aft_normal (?_)))))
     refine c_ (h1 := ?_) (h2 := ?_)
     rotate_right 1
     focus
      intro c2
      first
      | exact dn c2
      | (have d2 := c2; try simp at d2
         obtain ⟨h4, h5⟩ := szI_pos (n := w_Wk w) (a := szP pl 1048576) (by omega)
         refine wc_skip (?_)
         )
     rotate_right 1
     focus
      intro c2
      first
      | exact dn c2
      | (have d2 := c2; try simp at d2
         refine wa_ (wc_region (w_ (a_ (h := wo_nil (e_ (h := aft_normal (wc_ret (?_))))))))
         )
     all_goals first
     | refine aft_ret ?_
     | (refine aft_normal ?_
        refine wa_ (wc_draw (y_ (m_ (h := ax_ (h := y_ (ca (hc := e_toNS pl 0 h1 h2) (h := ax_ (h := y_ (l_ (h := ax_ (h := y_ (ca (hc := to_Wk w (by omega)) (h := ax_ (h := y_ (ca (hc := e_workS pl w h1 h2 (by omega)) (h := ax_ (h := y_ (a_ (h := ax_ (h := wo_nil (ed (h := aft_normal (wa_ (wc_region (?_)))))))))))))))))))))))))
        refine w_ (m_ (h := w_ (ca (hc := e_toNS pl 0 h1 h2) (h := w_ (a_ (h := wo_nil (e_ (h := aft_normal (wa_ (wc_region (w_ (l_ (h := w_ (ca (hc := to_Wk w (by omega)) (h := w_ (al (h := w0 (s_ (h := wo_nil (e_ (h := ?_)))))))))))))))))))))
        refine aft_normal (wa_ (wc_region (w_ (m_ (h := w_ (l_ (h := w_ (ca (hc := e_workI pl w h1 h2 (by omega)) (h := w_ (a_ (h := wo_nil (e_ (h := aft_normal (wa_ (wa_ (wc_region (?_)))))))))))))))))
        refine w_ (m_ (h := w_ (m_ (h := w_ (bE (h := wo_nil (e_ (h := aft_normal (?_)))))))))
        refine c_ (h1 := ?_) (h2 := ?_)
        rotate_right 1
        focus
         intro c3
         first
         | exact dn c3
         | (have d3 := c3; try simp at d3
            refine wc_skip (?_)
            )
        rotate_right 1
        focus
         intro c3
         first
         | exact dn c3
         | (have d3 := c3; try simp at d3
            refine wa_ (wc_region (w_ (a_ (h := wo_nil (e_ (h := aft_normal (wc_ret (?_))))))))
            )
        all_goals first
        | refine aft_ret ?_
        | (refine aft_normal ?_
           refine wa_ (wa_ (wc_region (w_ (m_ (h := w_ (m_ (h := w_ (ca (hc := e_toNS pl 0 h1 h2) (h := w_ (ca (hc := e_eqNS pl pl 0 0 h1 h1 h2 h2) (h := w_ (u_ (h := wo_nil (e_ (h := aft_normal (?_))))))))))))))))
           refine c_ (h1 := ?_) (h2 := ?_)
           rotate_right 1
           focus
            intro c4
            first
            | exact dn c4
            | (have d4 := c4; try simp at d4
               refine wc_skip (?_)
               )
           rotate_right 1
           focus
            intro c4
            first
            | exact dn c4
            | (have d4 := c4; try simp at d4
               refine wa_ (wc_region (w_ (a_ (h := wo_nil (e_ (h := aft_normal (wc_ret (?_))))))))
               )
           all_goals first
           | refine aft_ret ?_
           | (refine aft_normal ?_
              refine wa_ (wa_ (wc_draw (y_ (l_ (h := ax_ (h := y_ (l_ (h := ax_ (h := y_ (ca (hc := to_Wk w (by omega)) (h := ax_ (h := y_ (ca (hc := eq_Wk w w (by omega) (by omega)) (h := ax_ (h := y_ (u_ (h := ax_ (h := wo_nil (ed (h := aft_normal (?_)))))))))))))))))))))
              refine c_ (h1 := ?_) (h2 := ?_)
              rotate_right 1
              focus
               intro c5
               first
               | exact dn c5
               | (have d5 := c5; try simp at d5
                  refine wc_skip (?_)
                  )
              rotate_right 1
              focus
               intro c5
               first
               | exact dn c5
               | (have d5 := c5; try simp at d5
                  refine wa_ (wc_region (w_ (a_ (h := wo_nil (e_ (h := aft_normal (wc_ret (?_))))))))
                  )
              all_goals first
              | refine aft_ret ?_
              | (refine aft_normal ?_
                 refine wa_ (wc_region (w_ (a_ (h := wo_nil (e_ (h := aft_normal (wc_ret (?_))))))))
                 )
              )
           )
        )
     )
  all_goals (refine fin_ (hr := (res_tmp rfl res_nil)) (h := ?_); (focus (simp)))
end Go.Proofs.YtgkbmiaimjpbfaaGreat.Ev
