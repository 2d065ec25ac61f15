/- Part 6 of the proof that the law named in the last part returns true at every argument: an evaluator of the program, shown sound, and its runs. No further conditions. -/
import Derived.Test.YtgkbmiaimjpbfaaML1205
namespace Go.Proofs.Ytgkbmiaimjpbfaa.Ev
open Go
set_option maxRecDepth 100000
set_option linter.unusedSimpArgs false
set_option linter.unusedVariables false
set_option maxHeartbeats 2000000
def batR (pl : List Nd) (a : Int) : List Bt → Int
  | [] => 0
  | b :: r => if dataC pl a b.side b.ep b.set = 0 then batR pl a r else dataC pl a b.side b.ep b.set
theorem batR_0 {pl : List Nd} {a : Int} {b : Bt} {r : List Bt} (h : dataC pl a b.side b.ep b.set = 0) : batR pl a (b :: r) = batR pl a r := by rw [batR, if_pos h]
theorem batR_1 {pl : List Nd} {a : Int} {b : Bt} {r : List Bt} (h : ¬ dataC pl a b.side b.ep b.set = 0) : batR pl a (b :: r) = dataC pl a b.side b.ep b.set := by rw [batR, if_neg h]
def oldC (pl : List Nd) (d : Nd) (h : Hd) : Int :=
  if widF h.oldA (at0 (widN pl) d.a) = 0 then (if d.op = 4 ∨ d.op = 6 then widF h.oldB (at0 (widN pl) d.b) else if h.oldB.length = 0 ∧ ¬ (d.op = 12 ∧ ¬ h.oldA.length = 0) then 0 else 1) else widF h.oldA (at0 (widN pl) d.a)
def heldC (pl : List Nd) (a : Int) (h : Hd) : Int :=
  if staysN (ndAt pl a) = true then (if h.oldA.length = 0 ∧ h.oldB.length = 0 ∧ h.waits.length = 0 ∧ h.told = 0 then 0 else 1)
  else if oldC pl (ndAt pl a) h = 0 then (if 60 < h.waits.length then 2 else if batR pl a h.waits = 0 then (if inI h.told 0 20 = true ∧ (h.told = 0 ∨ (ndAt pl a).op = 12) then 0 else 3) else batR pl a h.waits)
  else oldC pl (ndAt pl a) h
theorem w_Hd_in {h : Hd} (hh : w_Hd h < 2000000) : w_Ets h.oldA < 2000000 ∧ w_Ets h.oldB < 2000000 ∧ w_Bts h.waits < 2000000 := by unfold w_Hd at hh; omega
theorem w_Bt_in {b : Bt} (hb : w_Bt b < 2000000) : w_Ets b.set < 2000000 := by unfold w_Bt at hb; omega
theorem l_batI (pl : List Nd) (a : Int) (d : Nd) (x : Hd) (hp : pl.length < 2000000) (hk : okN pl) (h0 : (lookN pl).2 = 0) (hx : w_Bts x.waits < 2000000) : ∀ i : Nat, (i ≤ x.waits.length) → ∀ s, normE 4 (some [0, 1, 2, 7, 9, 81, 82, 83]) s = ⟨[(0, .lst false 0 (nds false 0 pl)), (1, .lst false 0 (ints (widN pl))), (2, .int .i64 a), (7, .ptr 4 0 []), (9, .ptr 5 0 []), (81, .lst false 0 (bts false x.waits)), (82, .int .i64 x.waits.length), (83, .int .i64 i)], [(4, ⟨true, false, 4, [x.v false], 0⟩), (5, ⟨true, false, 7, [d.v false 0], 0⟩)], 6⟩ →
    oc.loop 112 20 s = some (if batR pl a (x.waits.drop i) = 0 then (.exit 0, ⟨[(7, .ptr 4 0 []), (9, .ptr 5 0 [])], [(4, ⟨true, false, 4, [x.v false], 0⟩), (5, ⟨true, false, 7, [d.v false 0], 0⟩)], 6⟩) else (.ret, ⟨[(7, .ptr 4 0 []), (8, .int .i64 (batR pl a (x.waits.drop i))), (9, .ptr 5 0 [])], [(4, ⟨true, false, 4, [x.v false], 0⟩), (5, ⟨true, false, 7, [d.v false 0], 0⟩)], 6⟩)) := by
  refine loop_ind (σ := Nat) (fun i => x.waits.length - i) _ (fun i => ⟨[(0, .lst false 0 (nds false 0 pl)), (1, .lst false 0 (ints (widN pl))), (2, .int .i64 a), (7, .ptr 4 0 []), (9, .ptr 5 0 []), (81, .lst false 0 (bts false x.waits)), (82, .int .i64 x.waits.length), (83, .int .i64 i)], [(4, ⟨true, false, 4, [x.v false], 0⟩), (5, ⟨true, false, 7, [d.v false 0], 0⟩)], 6⟩) _ ?_
  intro i hi ih s hs
  refine loop_s cd112 rfl rfl hs ?_
  have hlen := w_Bts_len (l := x.waits)
  refine wa_ (wc_region (w_ (b_ (h := wo_nil (e_ (h := aft_normal (wa_ (?_))))))))
  refine c_ (h1 := ?_) (h2 := ?_)
  rotate_right 1
  focus
   intro c1
   first
   | exact dn c1
   | (have d1 := c1; try simp at d1
      refine wc_exit (?_)
      )
  rotate_right 1
  focus
   intro c1
   first
   | exact dn c1
   | (have d1 := c1; try simp at d1
      have hw := wrap_succ (i := i) (by omega); obtain ⟨b, hb, e1, g1⟩ := bts_cut (t := false) (l := x.waits) (i := i) (by omega); have hbw := w_Bts_mem (List.mem_of_getElem? hb)
      refine wc_skip (?_)
      )
  all_goals first
  | refine aft_exit ?_
  | (refine aft_normal ?_
     refine wa_ (wc_block (wa_ (wc_region (w_ (x_ (h := w_ (l_ (h := w_ (al (h := w0 (s_ (h := wo_nil (e_ (h := aft_normal (wa_ (wc_region (?_)))))))))))))))))
     refine w_ (m_ (h := w_ (m_ (h := w_ (m_ (h := w_ (f_ (h := w_ (l_ (h := w_ (f_ (h := w_ (l_ (h := w_ (f_ (h := w_ (l_ (h := w_ (ca (hc := e_dataI pl a b.side b.ep b.set hp hk h0 (w_Bt_in (by omega))) (h := w_ (a_ (h := wo_nil (e_ (h := ?_))))))))))))))))))))))))
     refine aft_normal (wa_ (wc_region (w_ (m_ (h := w_ (bE (h := wo_nil (e_ (h := aft_normal (?_))))))))))
     refine c_ (h1 := ?_) (h2 := ?_)
     rotate_right 1
     focus
      intro c2
      first
      | exact dn c2
      | (have d2 := c2; try simp at d2
         refine wc_skip (?_)
         )
     rotate_right 1
     focus
      intro c2
      first
      | exact dn c2
      | (have d2 := c2; try simp at d2
         refine wa_ (wc_region (w_ (m_ (h := w_ (a_ (h := wo_nil (e_ (h := aft_normal (wc_ret (?_))))))))))
         )
     all_goals first | refine blk_normal ?_ | refine blk_ret ?_
     all_goals first
     | refine aft_ret ?_
     | (refine aft_normal ?_
        refine wc_region (w_ (b_ (h := w_ (m_ (h := wo_nil (e_ (h := ?_)))))))
        )
     )
  all_goals first
  | (refine (ih (i + 1) (by omega) ?_ _ ?_).trans ?_; (focus (first | omega | (simp; done) | (simp; omega))); (focus (simp [normE, hw]; done)); (focus (rw [e1, batR_0 d2])))
  | (apply end_leaf (ex := Ext.ret) 4 (some [7, 8, 9]); (focus (simp [normE]; rfl)); (focus (rw [e1, batR_1 d2]; simp [d2])))
  | (apply end_leaf (ex := (Ext.exit 0)) 4 (some [7, 8, 9]); (focus (simp [normE]; rfl)); (focus (rw [List.drop_eq_nil_of_le (by omega)]; simp [batR])))
theorem e_heldI2 (pl : List Nd) (a : Int) (x : Hd) (hp : pl.length < 2000000) (hk : okN pl) (hc : nodeC pl a = 0) (hx : w_Hd x < 2000000) : oc.call 112 [.lst false 0 (nds false 0 pl), .lst false 0 (ints (widN pl)), .int .i64 a, x.v false] = some (.int .i64 (heldC pl a x), []) := by
  refine fun_s rfl cd112 rfl rfl rfl (by simp; rfl) (by simp; rfl) ?_
  obtain ⟨k1, k2, k3⟩ := nodeC_zero hc
  obtain ⟨d, hd, g1⟩ := nd_at k2 k3
  obtain ⟨o1, o2, o3⟩ := in_at hk k1 k2 hd
  have hl := (look_good hk k1).2.1
  obtain ⟨hx1, hx2, hx3⟩ := w_Hd_in hx
  have hlA := w_Ets_len (l := x.oldA)
  have hlB := w_Ets_len (l := x.oldB)
  have hlW := w_Bts_len (l := x.waits)
  have hA0 : (x.oldA = []) = (x.oldA.length = 0) := by simp
  have hB0 : (x.oldB = []) = (x.oldB.length = 0) := by simp
  have hW0 : (x.waits = []) = (x.waits.length = 0) := by simp
  have hs1 : IntKind.i64.wrap ((x.oldA.length : Int) + x.oldB.length) = x.oldA.length + x.oldB.length := wrap_id (by omega) (by omega)
  have hs2 : IntKind.i64.wrap (IntKind.i64.wrap ((x.oldA.length : Int) + x.oldB.length) + x.waits.length) = x.oldA.length + x.oldB.length + x.waits.length := by rw [hs1]; exact wrap_id (by omega) (by omega)
  refine wa_ (wc_region (w_ (bx (h := w_ (a_ (h := wo_nil (e_ (h := aft_normal (wa_ (wc_region (w_ (m_ (h := w_ (m_ (h := w_ (x_ (h := w_ (l_ (h := ?_)))))))))))))))))))
  refine w_ (al (h := w0 (s_ (h := wo_nil (e_ (h := aft_normal (wa_ (wa_ (wc_region (w_ (l_ (h := w_ (ca (hc := e_staysI d) (h := wo_nil (e_ (h := aft_normal (?_)))))))))))))))))
  refine c_ (h1 := ?_) (h2 := ?_)
  rotate_right 1
  focus
   intro c1
   first
   | exact dn c1
   | (have d1 := c1; try simp at d1
      have ho1 : d.op ≠ 1 := (by intro e; simp [staysN, e] at d1); have hA := o2 ho1; have g2 := ints_ix (w := widN pl) hA.1 (by omega)
      refine wc_skip (?_)
      )
  rotate_right 1
  focus
   intro c1
   first
   | exact dn c1
   | (have d1 := c1; try simp at d1
      refine wa_ (wa_ (wc_region (w_ (f_ (h := w_ (l_ (h := w_ (le (h := w_ (f_ (h := w_ (l_ (h := w_ (le (h := w_ (b_ (h := w_ (f_ (h := w_ (l_ (h := ?_)))))))))))))))))))))
      refine w_ (le (h := w_ (b_ (h := w_ (b_ (h := w_ (m_ (h := ?_))))))))
      refine gw_ (h1 := ?_) (h2 := ?_)
      rotate_right 1
      focus
       intro c2
       first
       | exact dn c2
       | (have d2 := c2; try simp at d2
          refine go_ (h := go_ (h := go_ (h := ?_)))
          )
      rotate_right 1
      focus
       intro c2
       first
       | exact dn c2
       | (have d2 := c2; try simp at d2
          refine g_ (h := w_ (f_ (h := g_ (h := w_ (l_ (h := g_ (h := w_ (bE (h := ?_)))))))))
          )
      all_goals
       refine w_ (pk (h := wo_nil (e_ (h := ?_))))
      all_goals first
      | (refine aft_normal ?_
         refine c_ (h1 := ?_) (h2 := ?_)
         rotate_right 1
         focus
          intro c3
          first
          | exact dn c3
          | (have d3 := c3; try simp at d3
             refine wc_skip (?_)
             )
         rotate_right 1
         focus
          intro c3
          first
          | exact dn c3
          | (have d3 := c3; try simp at d3
             refine wa_ (wc_region (w_ (a_ (h := wo_nil (e_ (h := aft_normal (wc_ret (?_))))))))
             )
         )
      all_goals first
      | refine aft_ret ?_
      | (refine aft_normal ?_
         refine wa_ (wc_region (w_ (a_ (h := wo_nil (e_ (h := aft_normal (wc_ret (?_))))))))
         )
      )
  all_goals first
  | refine aft_ret ?_
  | (refine aft_normal ?_
     refine wa_ (wa_ (wc_draw (y_ (f_ (h := ax_ (h := y_ (l_ (h := ax_ (h := y_ (m_ (h := ax_ (h := y_ (f_ (h := ax_ (h := y_ (l_ (h := ax_ (h := y_ (x_ (h := ax_ (h := y_ (l_ (h := ax_ (h := ?_))))))))))))))))))))))))
     first | refine y_ (ca (hc := e_widI x.oldA _ hx1) (h := ?_)) | refine y_ (ca (hc := e_widI x.oldB _ hx2) (h := ?_))
     refine ax_ (h := y_ (a_ (h := ax_ (h := wo_nil (ed (h := aft_normal (wa_ (wc_region (w_ (m_ (h := w_ (bE (h := wo_nil (e_ (h := aft_normal (?_))))))))))))))))
     refine c_ (h1 := ?_) (h2 := ?_)
     rotate_right 1
     focus
      intro c4
      first
      | exact dn c4
      | (have d4 := c4; try simp at d4
         refine wc_skip (?_)
         )
     rotate_right 1
     focus
      intro c4
      first
      | exact dn c4
      | (have d4 := c4; try simp at d4
         refine wa_ (wc_region (w_ (m_ (h := w_ (a_ (h := wo_nil (e_ (h := aft_normal (wc_ret (?_))))))))))
         )
     all_goals first
     | refine aft_ret ?_
     | (refine aft_normal ?_
        refine wa_ (wa_ (wc_region (w_ (f_ (h := w_ (l_ (h := w_ (ca (hc := e_two _) (h := wo_nil (e_ (h := aft_normal (?_))))))))))))
        refine c_ (h1 := ?_) (h2 := ?_)
        rotate_right 1
        focus
         intro c5
         first
         | exact dn c5
         | (have d5 := c5; try simp at d5
            refine wa_ (wc_region (w_ (f_ (h := w_ (l_ (h := w_ (le (h := w_ (b_ (h := wo_nil (e_ (h := aft_normal (?_)))))))))))))
            refine c_ (h1 := ?_) (h2 := ?_)
            rotate_right 1
            focus
             intro c6
             first
             | exact dn c6
             | (have d6 := c6; try simp at d6
                refine wc_skip (?_)
                )
            rotate_right 1
            focus
             intro c6
             first
             | exact dn c6
             | (have d6 := c6; try simp at d6
                refine wa_ (wc_region (w_ (a_ (h := wo_nil (e_ (h := aft_normal (wc_ret (?_))))))))
                )
            )
        rotate_right 1
        focus
         intro c5
         first
         | exact dn c5
         | (have d5 := c5; try simp at d5
            have hB := o3 d5; have g3 := ints_ix (w := widN pl) hB.1 (by omega)
            refine wa_ (wc_draw (y_ (f_ (h := ax_ (h := y_ (l_ (h := ax_ (h := y_ (m_ (h := ax_ (h := y_ (f_ (h := ax_ (h := y_ (l_ (h := ax_ (h := y_ (x_ (h := ax_ (h := y_ (l_ (h := ax_ (h := ?_)))))))))))))))))))))))
            first | refine y_ (ca (hc := e_widI x.oldA _ hx1) (h := ?_)) | refine y_ (ca (hc := e_widI x.oldB _ hx2) (h := ?_))
            refine ax_ (h := y_ (a_ (h := ax_ (h := wo_nil (ed (h := aft_normal (wa_ (wc_region (w_ (m_ (h := w_ (bE (h := wo_nil (e_ (h := aft_normal (?_))))))))))))))))
            refine c_ (h1 := ?_) (h2 := ?_)
            rotate_right 1
            focus
             intro c7
             first
             | exact dn c7
             | (have d7 := c7; try simp at d7
                refine wc_skip (?_)
                )
            rotate_right 1
            focus
             intro c7
             first
             | exact dn c7
             | (have d7 := c7; try simp at d7
                refine wa_ (wc_region (w_ (m_ (h := w_ (a_ (h := wo_nil (e_ (h := aft_normal (wc_ret (?_))))))))))
                )
            )
        all_goals first
        | refine aft_ret ?_
        | (refine aft_normal ?_
           refine wa_ (wa_ (wc_region (w_ (f_ (h := w_ (l_ (h := w_ (bE (h := w_ (m_ (h := ?_)))))))))))
           refine gw_ (h1 := ?_) (h2 := ?_)
           rotate_right 1
           focus
            intro c8
            first
            | exact dn c8
            | (have d8 := c8; try simp at d8
               refine go_ (h := go_ (h := go_ (h := go_ (h := ?_))))
               )
           rotate_right 1
           focus
            intro c8
            first
            | exact dn c8
            | (have d8 := c8; try simp at d8
               refine g_ (h := w_ (f_ (h := g_ (h := w_ (l_ (h := g_ (h := w_ (le (h := g_ (h := w_ (b_ (h := ?_))))))))))))
               )
           all_goals
            refine w_ (pk (h := wo_nil (e_ (h := ?_))))
           all_goals first
           | (refine aft_normal ?_
              refine c_ (h1 := ?_) (h2 := ?_)
              rotate_right 1
              focus
               intro c9
               first
               | exact dn c9
               | (have d9 := c9; try simp at d9
                  refine wc_skip (?_)
                  )
              rotate_right 1
              focus
               intro c9
               first
               | exact dn c9
               | (have d9 := c9; try simp at d9
                  refine wa_ (wc_region (w_ (a_ (h := wo_nil (e_ (h := aft_normal (wc_ret (?_))))))))
                  )
              )
           all_goals first
           | refine aft_ret ?_
           | (refine aft_normal ?_
              refine wa_ (wa_ (wc_region (w_ (f_ (h := w_ (l_ (h := w_ (le (h := w_ (b_ (h := wo_nil (e_ (h := aft_normal (?_))))))))))))))
              refine c_ (h1 := ?_) (h2 := ?_)
              rotate_right 1
              focus
               intro c10
               first
               | exact dn c10
               | (have d10 := c10; try simp at d10
                  refine wc_skip (?_)
                  )
              rotate_right 1
              focus
               intro c10
               first
               | exact dn c10
               | (have d10 := c10; try simp at d10
                  refine wa_ (wc_region (w_ (a_ (h := wo_nil (e_ (h := aft_normal (wc_ret (?_))))))))
                  )
              all_goals first
              | refine aft_ret ?_
              | (refine aft_normal ?_
                 refine wa_ (wa_ (wc_region (w_ (f_ (h := w_ (l_ (h := w_ (le (h := w_ (m_ (h := wo_nil (e_ (h := aft_normal (wc_block (?_)))))))))))))))
                 refine wc_loopI (l_batI pl a d x hp hk k1 hx3 0 (by omega) _ (by simp [normE])) ?_ ?_
                 rotate_right 1
                 focus
                  intro c11
                  first
                  | exact dn c11
                  | (have d11 := c11; try simp at d11
                     skip
                     )
                 rotate_right 1
                 focus
                  intro c11
                  first
                  | exact dn c11
                  | (have d11 := c11; try simp at d11
                     skip
                     )
                 all_goals first | refine blk_ret ?_ | refine blk_exit ?_
                 all_goals first
                 | refine aft_ret ?_
                 | (refine aft_normal ?_
                    refine wa_ (wa_ (wc_region (w_ (f_ (h := w_ (l_ (h := w_ (ca (hc := e_in _ _ _) (h := w_ (u_ (h := w_ (m_ (h := ?_)))))))))))))
                    refine gw_ (h1 := ?_) (h2 := ?_)
                    rotate_right 1
                    focus
                     intro c12
                     first
                     | exact dn c12
                     | (have d12 := c12; try simp at d12
                        refine go_ (h := go_ (h := go_ (h := go_ (h := ?_))))
                        )
                    rotate_right 1
                    focus
                     intro c12
                     first
                     | exact dn c12
                     | (have d12 := c12; try simp at d12
                        refine g_ (h := w_ (f_ (h := g_ (h := w_ (l_ (h := g_ (h := w_ (bE (h := g_ (h := w_ (m_ (h := ?_))))))))))))
                        )
                    all_goals
                     first
                     | (skip
                        refine goN (h := goN (h := goN (h := ?_)))
                        )
                     | (refine gw_ (h1 := ?_) (h2 := ?_)
                        rotate_right 1
                        focus
                         intro c13
                         first
                         | exact dn c13
                         | (have d13 := c13; try simp at d13
                            refine go_ (h := go_ (h := go_ (h := ?_)))
                            )
                        rotate_right 1
                        focus
                         intro c13
                         first
                         | exact dn c13
                         | (have d13 := c13; try simp at d13
                            refine g_ (h := w_ (f_ (h := g_ (h := w_ (l_ (h := g_ (h := w_ (bE (h := ?_)))))))))
                            )
                        )
                     all_goals
                      first
                      | (skip
                         refine g_ (h := w_ (pk (h := ?_)))
                         )
                      | (skip
                         refine go_ (h := ?_)
                         )
                      all_goals
                       refine w_ (pk (h := wo_nil (e_ (h := ?_))))
                    all_goals first
                    | (refine aft_normal ?_
                       refine c_ (h1 := ?_) (h2 := ?_)
                       rotate_right 1
                       focus
                        intro c14
                        first
                        | exact dn c14
                        | (have d14 := c14; try simp at d14
                           refine wc_skip (?_)
                           )
                       rotate_right 1
                       focus
                        intro c14
                        first
                        | exact dn c14
                        | (have d14 := c14; try simp at d14
                           refine wa_ (wc_region (w_ (a_ (h := wo_nil (e_ (h := aft_normal (wc_ret (?_))))))))
                           )
                       )
                    all_goals first
                    | refine aft_ret ?_
                    | (refine aft_normal ?_
                       refine wa_ (wc_region (w_ (a_ (h := wo_nil (e_ (h := aft_normal (wc_ret (?_))))))))
                       )
                    )
                 )
              )
           )
        )
     )
  all_goals (refine fin_ (hr := (res_tmp rfl res_nil)) (h := ?_); (focus (have hnd := ndAt_of hd; clear hk hx hx1 hx2 hx3 hd g1 o1 o2 o3 hl; simp only [heldC, oldC, hnd]; simp <;> grind)))
theorem l_batS (pl : List Nd) (a : Int) (x : Hd) (hp : pl.length < 2000000) (hk : okN pl) (h0 : (lookN pl).2 = 0) (hx : w_Bts x.waits < 2000000) : ∀ i : Nat, (i ≤ x.waits.length) → ∀ s, normE 3 (some [0, 1, 5, 9]) s = ⟨[(0, .lst false 0 (nds false 0 pl)), (1, .int .i64 a), (5, .ptr 3 0 []), (9, .int .i64 i)], [(3, ⟨true, false, 4, [x.v false], 0⟩)], 4⟩ →
    oc.loop 40 14 s = some (if batR pl a (x.waits.drop i) = 0 then (.exit 0, ⟨[(0, .lst false 0 (nds false 0 pl)), (1, .int .i64 a), (5, .ptr 3 0 [])], [(3, ⟨true, false, 4, [x.v false], 0⟩)], 4⟩) else (.ret, ⟨[(0, .lst false 0 (nds false 0 pl)), (1, .int .i64 a), (5, .ptr 3 0 []), (6, .int .i64 (batR pl a (x.waits.drop i)))], [(3, ⟨true, false, 4, [x.v false], 0⟩)], 4⟩)) := by
  refine loop_ind (σ := Nat) (fun i => x.waits.length - i) _ (fun i => ⟨[(0, .lst false 0 (nds false 0 pl)), (1, .int .i64 a), (5, .ptr 3 0 []), (9, .int .i64 i)], [(3, ⟨true, false, 4, [x.v false], 0⟩)], 4⟩) _ ?_
  intro i hi ih s hs
  refine loop_s cd40 rfl rfl hs ?_
  have hlen := w_Bts_len (l := x.waits)
  refine wa_ (wa_ (wc_region (w_ (m_ (h := w_ (f_ (h := w_ (l_ (h := w_ (le (h := w_ (b_ (h := wo_nil (e_ (h := aft_normal (?_))))))))))))))))
  refine c_ (h1 := ?_) (h2 := ?_)
  rotate_right 1
  focus
   intro c1
   first
   | exact dn c1
   | (have d1 := c1; try simp at d1
      refine wc_exit (?_)
      )
  rotate_right 1
  focus
   intro c1
   first
   | exact dn c1
   | (have d1 := c1; try simp at d1
      have hw := wrap_succ (i := i) (by omega); obtain ⟨b, hb, e1, g1⟩ := bts_cut (t := false) (l := x.waits) (i := i) (by omega); have hbw := w_Bts_mem (List.mem_of_getElem? hb)
      refine wc_skip (?_)
      )
  all_goals first
  | refine aft_exit ?_
  | (refine aft_normal ?_
     refine wa_ (wc_block (wa_ (wc_draw (y_ (m_ (h := ax_ (h := y_ (m_ (h := ax_ (h := y_ (f_ (h := ax_ (h := y_ (l_ (h := ax_ (h := y_ (m_ (h := ax_ (h := y_ (x_ (h := ax_ (h := y_ (f_ (h := ax_ (h := y_ (l_ (h := ax_ (h := ?_))))))))))))))))))))))))))))
     refine y_ (f_ (h := ax_ (h := y_ (l_ (h := ax_ (h := y_ (m_ (h := ax_ (h := y_ (x_ (h := ax_ (h := y_ (f_ (h := ax_ (h := y_ (l_ (h := ax_ (h := y_ (f_ (h := ax_ (h := y_ (l_ (h := ax_ (h := y_ (m_ (h := ax_ (h := y_ (x_ (h := ax_ (h := y_ (f_ (h := ax_ (h := y_ (l_ (h := ax_ (h := ?_))))))))))))))))))))))))))))))))))))
     refine y_ (ca (hc := e_dataS pl a b.side b.ep b.set hp hk h0 (w_Bt_in (by omega))) (h := ax_ (h := y_ (a_ (h := ax_ (h := wo_nil (ed (h := aft_normal (wa_ (wc_region (w_ (m_ (h := w_ (bE (h := wo_nil (e_ (h := aft_normal (?_))))))))))))))))))
     refine c_ (h1 := ?_) (h2 := ?_)
     rotate_right 1
     focus
      intro c2
      first
      | exact dn c2
      | (have d2 := c2; try simp at d2
         refine wc_skip (?_)
         )
     rotate_right 1
     focus
      intro c2
      first
      | exact dn c2
      | (have d2 := c2; try simp at d2
         refine wa_ (wc_region (w_ (m_ (h := w_ (a_ (h := wo_nil (e_ (h := aft_normal (wc_ret (?_))))))))))
         )
     all_goals first | refine blk_normal ?_ | refine blk_ret ?_
     all_goals first
     | refine aft_ret ?_
     | (refine aft_normal ?_
        refine wc_region (w_ (m_ (h := w_ (b_ (h := w_ (a_ (h := wo_nil (e_ (h := ?_)))))))))
        )
     )
  all_goals first
  | (refine (ih (i + 1) (by omega) ?_ _ ?_).trans ?_; (focus (first | omega | (simp; done) | (simp; omega))); (focus (simp [normE, hw]; done)); (focus (rw [e1, batR_0 d2])))
  | (apply end_leaf (ex := Ext.ret) 3 (some [0, 1, 5, 6]); (focus (simp [normE]; rfl)); (focus (rw [e1, batR_1 d2]; simp [d2])))
  | (apply end_leaf (ex := (Ext.exit 0)) 3 (some [0, 1, 5, 6]); (focus (simp [normE]; rfl)); (focus (rw [List.drop_eq_nil_of_le (by omega)]; simp [batR])))
def heldN (pl : List Nd) (a : Int) (x : Hd) : Int := if nodeC pl a = 0 then heldC pl a x else nodeC pl a
theorem e_heldI (pl : List Nd) (a : Int) (x : Hd) (hp : pl.length < 2000000) (hk : okN pl) (hx : w_Hd x < 2000000) : oc.call 43 [.lst false 0 (nds false 0 pl), .int .i64 a, x.v false] = some (.int .i64 (heldN pl a x), []) := by
  refine fun_s rfl cd43 rfl rfl rfl (by simp; rfl) (by simp; rfl) ?_
  refine wa_ (wc_region (w_ (bx (h := w_ (a_ (h := wo_nil (e_ (h := aft_normal (wa_ (wc_region (w_ (m_ (h := w_ (m_ (h := w_ (ca (hc := e_nodeC pl a hp hk) (h := w_ (m_ (h := ?_)))))))))))))))))))
  refine w_ (ex (h := w_ (ex (h := w_ (a_ (h := w_ (a_ (h := wo_nil (e_ (h := aft_normal (wa_ (wa_ (wc_region (w_ (m_ (h := w_ (bE (h := wo_nil (e_ (h := ?_))))))))))))))))))))
  refine aft_normal (?_)
  refine c_ (h1 := ?_) (h2 := ?_)
  rotate_right 1
  focus
   intro c1
   first
   | exact dn c1
   | (have d1 := c1; try simp at d1
      refine wc_skip (?_)
      )
  rotate_right 1
  focus
   intro c1
   first
   | exact dn c1
   | (have d1 := c1; try simp at d1
      refine wa_ (wc_region (w_ (m_ (h := w_ (a_ (h := wo_nil (e_ (h := aft_normal (wc_ret (?_))))))))))
      )
  all_goals first
  | refine aft_ret ?_
  | (refine aft_normal ?_
     refine wa_ (wc_region (w_ (m_ (h := w_ (m_ (h := w_ (m_ (h := w_ (l_ (h := w_ (ca (hc := e_heldI2 pl a x hp hk d1 hx) (h := w_ (a_ (h := wo_nil (e_ (h := aft_normal (wc_ret (?_))))))))))))))))))
     )
  all_goals (refine fin_ (hr := (res_tmp rfl res_nil)) (h := ?_); (focus (clear hk; simp [heldN, *])))
theorem e_gath (d : Nd) : oc.call 105 [d.v false 0] = some (.bool (!staysN d), []) := by
  refine fun_s rfl cd105 rfl rfl rfl (by simp; rfl) (by simp; rfl) ?_
  refine wa_ (wc_region (w_ (bx (h := w_ (a_ (h := wo_nil (e_ (h := aft_normal (wa_ (wc_region (w_ (f_ (h := w_ (l_ (h := w_ (ca (hc := e_linS _) (h := w_ (u_ (h := ?_)))))))))))))))))))
  refine w_ (m_ (h := ?_))
  refine gw_ (h1 := ?_) (h2 := ?_)
  rotate_right 1
  focus
   intro c1
   refine go_ (h := go_ (h := go_ (h := ?_)))
  rotate_right 1
  focus
   intro c1
   refine g_ (h := w_ (f_ (h := g_ (h := w_ (l_ (h := g_ (h := w_ (bE (h := ?_)))))))))
  all_goals
   refine w_ (pk (h := w_ (a_ (h := wo_nil (e_ (h := ?_))))))
  all_goals first
  | (refine aft_normal ?_
     refine wc_ret (?_)
     )
  all_goals (refine fin_ (hr := (res_tmp rfl res_nil)) (h := ?_); (focus (simp [staysN, inI] at * <;> grind)))
theorem e_old (pl : List Nd) (a : Int) (x : Hd) (hp : pl.length < 2000000) (hk : okN pl) (hc : nodeC pl a = 0) (ho : staysN (ndAt pl a) = false) (hx : w_Hd x < 2000000) : oc.call 106 [.lst false 0 (nds false 0 pl), .int .i64 a, x.v false] = some (.int .i64 (oldC pl (ndAt pl a) x), []) := by
  refine fun_s rfl cd106 rfl rfl rfl (by simp; rfl) (by simp; rfl) ?_
  obtain ⟨k1, k2, k3⟩ := nodeC_zero hc
  obtain ⟨d, hd, g1⟩ := nd_at k2 k3
  obtain ⟨o1, o2, o3⟩ := in_at hk k1 k2 hd
  rw [ndAt_of hd] at ho ⊢
  have ho1 : d.op ≠ 1 := by rintro e; simp [staysN, e] at ho
  have hl := (look_good hk k1).2.1
  obtain ⟨hx1, hx2, hx3⟩ := w_Hd_in hx
  have hlA := w_Ets_len (l := x.oldA)
  have hlB := w_Ets_len (l := x.oldB)
  refine wa_ (wc_region (w_ (bx (h := w_ (a_ (h := wo_nil (e_ (h := aft_normal (wa_ (wc_region (w_ (m_ (h := w_ (m_ (h := w_ (x_ (h := w_ (l_ (h := ?_)))))))))))))))))))
  refine w_ (al (h := w0 (s_ (h := wo_nil (e_ (h := aft_normal (wa_ (wa_ (wc_draw (y_ (f_ (h := ax_ (h := y_ (l_ (h := ax_ (h := y_ (m_ (h := ax_ (h := y_ (f_ (h := ax_ (h := y_ (l_ (h := ax_ (h := ?_)))))))))))))))))))))))))
  first | refine y_ (ca (hc := e_l3WidthI pl (widN pl) hp (look_good hk k1).1 d.a (o2 ho1).1 (by have := o2 ho1; omega)) (h := ?_)) | refine y_ (ca (hc := e_l3WidthI pl (widN pl) hp (look_good hk k1).1 d.b (o3 h46).1 (by have := o3 h46; omega)) (h := ?_))
  refine ax_ (h := ?_)
  first | refine y_ (ca (hc := e_widS x.oldA _ hx1) (h := ?_)) | refine y_ (ca (hc := e_widS x.oldB _ hx2) (h := ?_))
  refine ax_ (h := y_ (a_ (h := ax_ (h := wo_nil (ed (h := aft_normal (wa_ (wc_region (w_ (m_ (h := w_ (bE (h := wo_nil (e_ (h := aft_normal (?_))))))))))))))))
  refine c_ (h1 := ?_) (h2 := ?_)
  rotate_right 1
  focus
   intro c1
   first
   | exact dn c1
   | (have d1 := c1; try simp at d1
      refine wc_skip (?_)
      )
  rotate_right 1
  focus
   intro c1
   first
   | exact dn c1
   | (have d1 := c1; try simp at d1
      refine wa_ (wc_region (w_ (m_ (h := w_ (a_ (h := wo_nil (e_ (h := aft_normal (wc_ret (?_))))))))))
      )
  all_goals first
  | refine aft_ret ?_
  | (refine aft_normal ?_
     refine wa_ (wa_ (wc_region (w_ (f_ (h := w_ (l_ (h := w_ (ca (hc := e_l3Reads _) (h := w_ (b_ (h := wo_nil (e_ (h := aft_normal (?_))))))))))))))
     refine c_ (h1 := ?_) (h2 := ?_)
     rotate_right 1
     focus
      intro c2
      first
      | exact dn c2
      | (have d2 := c2; try simp at d2
         refine wc_skip (?_)
         )
     rotate_right 1
     focus
      intro c2
      first
      | exact dn c2
      | (have d2 := c2; try simp at d2
         have h46 : d.op = 4 ∨ d.op = 6 := (by clear hk; grind)
         refine wa_ (wc_draw (y_ (f_ (h := ax_ (h := y_ (l_ (h := ax_ (h := y_ (m_ (h := ax_ (h := y_ (f_ (h := ax_ (h := y_ (l_ (h := ax_ (h := ?_)))))))))))))))))
         first | refine y_ (ca (hc := e_l3WidthI pl (widN pl) hp (look_good hk k1).1 d.a (o2 ho1).1 (by have := o2 ho1; omega)) (h := ?_)) | refine y_ (ca (hc := e_l3WidthI pl (widN pl) hp (look_good hk k1).1 d.b (o3 h46).1 (by have := o3 h46; omega)) (h := ?_))
         refine ax_ (h := ?_)
         first | refine y_ (ca (hc := e_widS x.oldA _ hx1) (h := ?_)) | refine y_ (ca (hc := e_widS x.oldB _ hx2) (h := ?_))
         refine ax_ (h := y_ (a_ (h := ax_ (h := wo_nil (ed (h := aft_normal (wc_ret (?_))))))))
         )
     all_goals first
     | refine aft_ret ?_
     | (refine aft_normal ?_
        refine wa_ (wa_ (wc_region (w_ (f_ (h := w_ (l_ (h := w_ (le (h := w_ (b_ (h := w_ (m_ (h := ?_)))))))))))))
        refine gw_ (h1 := ?_) (h2 := ?_)
        rotate_right 1
        focus
         intro c3
         first
         | exact dn c3
         | (have d3 := c3; try simp at d3
            refine go_ (h := go_ (h := go_ (h := go_ (h := ?_))))
            )
        rotate_right 1
        focus
         intro c3
         first
         | exact dn c3
         | (have d3 := c3; try simp at d3
            refine g_ (h := w_ (f_ (h := g_ (h := w_ (l_ (h := g_ (h := w_ (bE (h := g_ (h := w_ (m_ (h := ?_))))))))))))
            )
        all_goals
         first
         | (skip
            refine goN (h := goN (h := goN (h := goN (h := ?_))))
            )
         | (refine gw_ (h1 := ?_) (h2 := ?_)
            rotate_right 1
            focus
             intro c4
             first
             | exact dn c4
             | (have d4 := c4; try simp at d4
                refine go_ (h := go_ (h := go_ (h := go_ (h := ?_))))
                )
            rotate_right 1
            focus
             intro c4
             first
             | exact dn c4
             | (have d4 := c4; try simp at d4
                refine g_ (h := w_ (f_ (h := g_ (h := w_ (l_ (h := g_ (h := w_ (le (h := g_ (h := w_ (b_ (h := ?_))))))))))))
                )
            )
         all_goals
          first
          | (skip
             refine g_ (h := w_ (pk (h := ?_)))
             )
          | (skip
             refine go_ (h := ?_)
             )
          all_goals
           refine w_ (pk (h := wo_nil (e_ (h := ?_))))
        all_goals first
        | (refine aft_normal ?_
           refine c_ (h1 := ?_) (h2 := ?_)
           rotate_right 1
           focus
            intro c5
            first
            | exact dn c5
            | (have d5 := c5; try simp at d5
               refine wc_skip (?_)
               )
           rotate_right 1
           focus
            intro c5
            first
            | exact dn c5
            | (have d5 := c5; try simp at d5
               refine wa_ (wc_region (w_ (a_ (h := wo_nil (e_ (h := aft_normal (wc_ret (?_))))))))
               )
           )
        all_goals first
        | refine aft_ret ?_
        | (refine aft_normal ?_
           refine wa_ (wc_region (w_ (a_ (h := wo_nil (e_ (h := aft_normal (wc_ret (?_))))))))
           )
        )
     )
  all_goals (refine fin_ (hr := (res_tmp rfl res_nil)) (h := ?_); (focus (clear hk; simp only [oldC]; simp at * <;> grind)))
theorem e_heldS (pl : List Nd) (a : Int) (x : Hd) (hp : pl.length < 2000000) (hk : okN pl) (hx : w_Hd x < 2000000) : oc.call 40 [.lst false 0 (nds false 0 pl), .int .i64 a, x.v false] = some (.int .i64 (heldN pl a x), []) := by
  refine fun_s rfl cd40 rfl rfl rfl (by simp; rfl) (by simp; rfl) ?_
  obtain ⟨hx1, hx2, hx3⟩ := w_Hd_in hx
  have hlA := w_Ets_len (l := x.oldA)
  have hlB := w_Ets_len (l := x.oldB)
  have hlW := w_Bts_len (l := x.waits)
  refine wa_ (wc_region (w_ (bx (h := w_ (a_ (h := wo_nil (e_ (h := aft_normal (wa_ (wa_ (wc_region (w_ (m_ (h := w_ (m_ (h := w_ (ca (hc := e_l3Asked pl a hp hk) (h := ?_))))))))))))))))))
  refine w_ (a_ (h := wo_nil (e_ (h := aft_normal (wa_ (wc_region (w_ (m_ (h := w_ (bE (h := wo_nil (e_ (h := aft_normal (?_))))))))))))))
  refine c_ (h1 := ?_) (h2 := ?_)
  rotate_right 1
  focus
   intro c1
   first
   | exact dn c1
   | (have d1 := c1; try simp at d1
      obtain ⟨k1, k2, k3⟩ := nodeC_zero d1; obtain ⟨d, hd, g1⟩ := nd_at k2 k3; have hnd := ndAt_of hd
      refine wc_skip (?_)
      )
  rotate_right 1
  focus
   intro c1
   first
   | exact dn c1
   | (have d1 := c1; try simp at d1
      refine wa_ (wc_region (w_ (m_ (h := w_ (a_ (h := wo_nil (e_ (h := aft_normal (wc_ret (?_))))))))))
      )
  all_goals first
  | refine aft_ret ?_
  | (refine aft_normal ?_
     refine wa_ (wa_ (wc_region (w_ (m_ (h := w_ (m_ (h := w_ (x_ (h := w_ (l_ (h := w_ (ca (hc := e_gath d) (h := w_ (u_ (h := wo_nil (e_ (h := aft_normal (?_))))))))))))))))))
     refine c_ (h1 := ?_) (h2 := ?_)
     rotate_right 1
     focus
      intro c2
      first
      | exact dn c2
      | (have d2 := c2; try simp at d2
         refine wc_skip (?_)
         )
     rotate_right 1
     focus
      intro c2
      first
      | exact dn c2
      | (have d2 := c2; try simp at d2
         refine wa_ (wa_ (wc_region (w_ (f_ (h := w_ (l_ (h := w_ (le (h := w_ (b_ (h := w_ (m_ (h := ?_)))))))))))))
         refine gw_ (h1 := ?_) (h2 := ?_)
         rotate_right 1
         focus
          intro c3
          first
          | exact dn c3
          | (have d3 := c3; try simp at d3
             refine go_ (h := go_ (h := go_ (h := go_ (h := ?_))))
             )
         rotate_right 1
         focus
          intro c3
          first
          | exact dn c3
          | (have d3 := c3; try simp at d3
             refine g_ (h := w_ (f_ (h := g_ (h := w_ (l_ (h := g_ (h := w_ (le (h := g_ (h := w_ (b_ (h := ?_))))))))))))
             )
         all_goals
          refine w_ (pk (h := w_ (m_ (h := ?_))))
          refine gw_ (h1 := ?_) (h2 := ?_)
          rotate_right 1
          focus
           intro c4
           first
           | exact dn c4
           | (have d4 := c4; try simp at d4
              refine go_ (h := go_ (h := go_ (h := go_ (h := ?_))))
              )
          rotate_right 1
          focus
           intro c4
           first
           | exact dn c4
           | (have d4 := c4; try simp at d4
              refine g_ (h := w_ (f_ (h := g_ (h := w_ (l_ (h := g_ (h := w_ (le (h := g_ (h := w_ (b_ (h := ?_))))))))))))
              )
          all_goals
           refine w_ (pk (h := w_ (m_ (h := ?_))))
           refine gw_ (h1 := ?_) (h2 := ?_)
           rotate_right 1
           focus
            intro c5
            first
            | exact dn c5
            | (have d5 := c5; try simp at d5
               refine go_ (h := go_ (h := go_ (h := ?_)))
               )
           rotate_right 1
           focus
            intro c5
            first
            | exact dn c5
            | (have d5 := c5; try simp at d5
               refine g_ (h := w_ (f_ (h := g_ (h := w_ (l_ (h := g_ (h := w_ (bE (h := ?_)))))))))
               )
           all_goals
            refine w_ (pk (h := wo_nil (e_ (h := ?_))))
         all_goals first
         | (refine aft_normal ?_
            refine c_ (h1 := ?_) (h2 := ?_)
            rotate_right 1
            focus
             intro c6
             first
             | exact dn c6
             | (have d6 := c6; try simp at d6
                refine wc_skip (?_)
                )
            rotate_right 1
            focus
             intro c6
             first
             | exact dn c6
             | (have d6 := c6; try simp at d6
                refine wa_ (wc_region (w_ (a_ (h := wo_nil (e_ (h := aft_normal (wc_ret (?_))))))))
                )
            )
         all_goals first
         | refine aft_ret ?_
         | (refine aft_normal ?_
            refine wa_ (wc_region (w_ (a_ (h := wo_nil (e_ (h := aft_normal (wc_ret (?_))))))))
            )
         )
     all_goals first
     | refine aft_ret ?_
     | (refine aft_normal ?_
        refine wa_ (wa_ (wc_region (w_ (m_ (h := w_ (m_ (h := w_ (l_ (h := w_ (ca (hc := e_old pl a x hp hk d1 (by rw [hnd]; simpa using d2) hx) (h := w_ (a_ (h := wo_nil (e_ (h := aft_normal (wa_ (wc_region (?_))))))))))))))))))
        refine w_ (m_ (h := w_ (bE (h := wo_nil (e_ (h := aft_normal (?_)))))))
        refine c_ (h1 := ?_) (h2 := ?_)
        rotate_right 1
        focus
         intro c7
         first
         | exact dn c7
         | (have d7 := c7; try simp at d7
            refine wc_skip (?_)
            )
        rotate_right 1
        focus
         intro c7
         first
         | exact dn c7
         | (have d7 := c7; try simp at d7
            refine wa_ (wc_region (w_ (m_ (h := w_ (a_ (h := wo_nil (e_ (h := aft_normal (wc_ret (?_))))))))))
            )
        all_goals first
        | refine aft_ret ?_
        | (refine aft_normal ?_
           refine wa_ (wa_ (wc_region (w_ (f_ (h := w_ (l_ (h := w_ (le (h := w_ (b_ (h := wo_nil (e_ (h := aft_normal (?_))))))))))))))
           refine c_ (h1 := ?_) (h2 := ?_)
           rotate_right 1
           focus
            intro c8
            first
            | exact dn c8
            | (have d8 := c8; try simp at d8
               refine wc_skip (?_)
               )
           rotate_right 1
           focus
            intro c8
            first
            | exact dn c8
            | (have d8 := c8; try simp at d8
               refine wa_ (wc_region (w_ (a_ (h := wo_nil (e_ (h := aft_normal (wc_ret (?_))))))))
               )
           all_goals first
           | refine aft_ret ?_
           | (refine aft_normal ?_
              refine wa_ (wa_ (wc_region (w_ (a_ (h := wo_nil (e_ (h := aft_normal (wc_block (?_)))))))))
              refine wc_loopI (l_batS pl a x hp hk k1 hx3 0 (by omega) _ (by simp [normE])) ?_ ?_
              rotate_right 1
              focus
               intro c9
               first
               | exact dn c9
               | (have d9 := c9; try simp at d9
                  skip
                  )
              rotate_right 1
              focus
               intro c9
               first
               | exact dn c9
               | (have d9 := c9; try simp at d9
                  skip
                  )
              all_goals first | refine blk_ret ?_ | refine blk_exit ?_
              all_goals first
              | refine aft_ret ?_
              | (refine aft_normal ?_
                 refine wa_ (wa_ (wc_region (w_ (f_ (h := w_ (l_ (h := w_ (ca (hc := e_l1In _ _ _) (h := w_ (u_ (h := w_ (m_ (h := ?_)))))))))))))
                 refine gw_ (h1 := ?_) (h2 := ?_)
                 rotate_right 1
                 focus
                  intro c10
                  first
                  | exact dn c10
                  | (have d10 := c10; try simp at d10
                     refine go_ (h := go_ (h := go_ (h := go_ (h := ?_))))
                     )
                 rotate_right 1
                 focus
                  intro c10
                  first
                  | exact dn c10
                  | (have d10 := c10; try simp at d10
                     refine g_ (h := w_ (f_ (h := g_ (h := w_ (l_ (h := g_ (h := w_ (bE (h := g_ (h := w_ (m_ (h := ?_))))))))))))
                     )
                 all_goals
                  first
                  | (skip
                     refine goN (h := goN (h := goN (h := goN (h := goN (h := goN (h := ?_))))))
                     )
                  | (refine gw_ (h1 := ?_) (h2 := ?_)
                     rotate_right 1
                     focus
                      intro c11
                      first
                      | exact dn c11
                      | (have d11 := c11; try simp at d11
                         refine go_ (h := go_ (h := go_ (h := go_ (h := go_ (h := go_ (h := ?_))))))
                         )
                     rotate_right 1
                     focus
                      intro c11
                      first
                      | exact dn c11
                      | (have d11 := c11; try simp at d11
                         refine g_ (h := w_ (m_ (h := g_ (h := w_ (m_ (h := g_ (h := w_ (x_ (h := g_ (h := w_ (f_ (h := g_ (h := w_ (l_ (h := g_ (h := w_ (bE (h := ?_))))))))))))))))))
                         )
                     )
                  all_goals
                   first
                   | (skip
                      refine g_ (h := w_ (pk (h := ?_)))
                      )
                   | (skip
                      refine go_ (h := ?_)
                      )
                   all_goals
                    refine w_ (pk (h := wo_nil (e_ (h := ?_))))
                 all_goals first
                 | (refine aft_normal ?_
                    refine c_ (h1 := ?_) (h2 := ?_)
                    rotate_right 1
                    focus
                     intro c12
                     first
                     | exact dn c12
                     | (have d12 := c12; try simp at d12
                        refine wc_skip (?_)
                        )
                    rotate_right 1
                    focus
                     intro c12
                     first
                     | exact dn c12
                     | (have d12 := c12; try simp at d12
                        refine wa_ (wc_region (w_ (a_ (h := wo_nil (e_ (h := aft_normal (wc_ret (?_))))))))
                        )
                    )
                 all_goals first
                 | refine aft_ret ?_
                 | (refine aft_normal ?_
                    refine wa_ (wc_region (w_ (a_ (h := wo_nil (e_ (h := aft_normal (wc_ret (?_))))))))
                    )
                 )
              )
           )
        )
     )
  all_goals (refine fin_ (hr := (res_tmp rfl res_nil)) (h := ?_); (focus (clear hk; first | (simp only [heldN, heldC, hnd]; simp at * <;> grind) | (simp [heldN, *]))))
theorem law_held (pl : List Nd) (a : Int) (x : Hd) (ho : okB pl) (hx : bg_Hd x) : oc.call 7 [.lst false 0 (nds false 0 pl), .int .i64 a, x.v false] = some (.bool true, []) := by
  refine fun_s rfl cd7 rfl rfl rfl (by simp; rfl) (by simp; rfl) ?_
  refine wa_ (wc_region (w_ (bx (h := w_ (a_ (h := wo_nil (e_ (h := aft_normal (wa_ (wc_region (w_ (a_ (h := wo_nil (e_ (h := aft_normal (wa_ (?_)))))))))))))))))
  refine wc_region (w_ (m_ (h := w_ (m_ (h := w_ (ca (hc := e_szNS pl 0 1048576 ho (by omega) (by omega)) (h := w_ (a_ (h := wo_nil (e_ (h := aft_normal (wa_ (wa_ (wc_region (w_ (m_ (h := w_ (b_ (h := ?_)))))))))))))))))))
  refine wo_nil (e_ (h := aft_normal (?_)))
  refine c_ (h1 := ?_) (h2 := ?_)
  rotate_right 1
  focus
   intro c1
   first
   | exact dn c1
   | (have d1 := c1; try simp at d1
      obtain ⟨h1, h2, h3⟩ := szP_ok (l := pl) (a := 1048576) (by omega) (by omega)
      refine wc_skip (?_)
      )
  rotate_right 1
  focus
   intro c1
   first
   | exact dn c1
   | (have d1 := c1; try simp at d1
      refine wa_ (wc_region (w_ (a_ (h := wo_nil (e_ (h := aft_normal (wc_ret (?_))))))))
      )
  all_goals first
  | refine aft_ret ?_
  | (refine aft_normal ?_
     refine wa_ (wc_region (w_ (l_ (h := w_ (m_ (h := w_ (ca (hc := sz_Hd x (szP pl 1048576) hx (by omega) (by omega)) (h := w_ (a_ (h := wo_nil (e_ (h := aft_normal (wa_ (wa_ (wc_region (w_ (m_ (h := ?_))))))))))))))))))
     refine w_ (b_ (h := wo_nil (e_ (h := aft_normal (?_)))))
     refine c_ (h1 := ?_) (h2 := ?_)
     rotate_right 1
     focus
      intro c2
      first
      | exact dn c2
      | (have d2 := c2; try simp at d2
         obtain ⟨h4, h5⟩ := szI_pos (n := w_Hd x) (a := szP pl 1048576) (by omega)
         refine wc_skip (?_)
         )
     rotate_right 1
     focus
      intro c2
      first
      | exact dn c2
      | (have d2 := c2; try simp at d2
         refine wa_ (wc_region (w_ (a_ (h := wo_nil (e_ (h := aft_normal (wc_ret (?_))))))))
         )
     all_goals first
     | refine aft_ret ?_
     | (refine aft_normal ?_
        refine wa_ (wc_draw (y_ (m_ (h := ax_ (h := y_ (ca (hc := e_toNS pl 0 h1 h2) (h := ax_ (h := y_ (m_ (h := ax_ (h := y_ (l_ (h := ax_ (h := y_ (ca (hc := to_Hd x (by omega)) (h := ax_ (h := y_ (ca (hc := e_heldS pl a x h1 h2 (by omega)) (h := ax_ (h := y_ (a_ (h := ax_ (h := wo_nil (ed (h := aft_normal (wa_ (?_)))))))))))))))))))))))))))
        refine wc_region (w_ (m_ (h := w_ (ca (hc := e_toNS pl 0 h1 h2) (h := w_ (a_ (h := wo_nil (e_ (h := aft_normal (wa_ (wc_region (w_ (l_ (h := w_ (ca (hc := to_Hd x (by omega)) (h := w_ (al (h := w0 (s_ (h := ?_))))))))))))))))))))
        refine wo_nil (e_ (h := aft_normal (wa_ (wc_region (w_ (m_ (h := w_ (m_ (h := w_ (l_ (h := w_ (ca (hc := e_heldI pl a x h1 h2 (by omega)) (h := w_ (a_ (h := wo_nil (e_ (h := aft_normal (wa_ (?_)))))))))))))))))))
        refine wa_ (wc_region (w_ (m_ (h := w_ (m_ (h := w_ (bE (h := wo_nil (e_ (h := aft_normal (?_)))))))))))
        refine c_ (h1 := ?_) (h2 := ?_)
        rotate_right 1
        focus
         intro c3
         first
         | exact dn c3
         | (have d3 := c3; try simp at d3
            refine wc_skip (?_)
            )
        rotate_right 1
        focus
         intro c3
         first
         | exact dn c3
         | (have d3 := c3; try simp at d3
            refine wa_ (wc_region (w_ (a_ (h := wo_nil (e_ (h := aft_normal (wc_ret (?_))))))))
            )
        all_goals first
        | refine aft_ret ?_
        | (refine aft_normal ?_
           refine wa_ (wa_ (wc_region (w_ (m_ (h := w_ (m_ (h := w_ (ca (hc := e_toNS pl 0 h1 h2) (h := w_ (ca (hc := e_eqNS pl pl 0 0 h1 h1 h2 h2) (h := w_ (u_ (h := wo_nil (e_ (h := aft_normal (?_))))))))))))))))
           refine c_ (h1 := ?_) (h2 := ?_)
           rotate_right 1
           focus
            intro c4
            first
            | exact dn c4
            | (have d4 := c4; try simp at d4
               refine wc_skip (?_)
               )
           rotate_right 1
           focus
            intro c4
            first
            | exact dn c4
            | (have d4 := c4; try simp at d4
               refine wa_ (wc_region (w_ (a_ (h := wo_nil (e_ (h := aft_normal (wc_ret (?_))))))))
               )
           all_goals first
           | refine aft_ret ?_
           | (refine aft_normal ?_
              refine wa_ (wa_ (wc_draw (y_ (l_ (h := ax_ (h := y_ (l_ (h := ax_ (h := y_ (ca (hc := to_Hd x (by omega)) (h := ax_ (h := y_ (ca (hc := eq_Hd x x (by omega) (by omega)) (h := ax_ (h := y_ (u_ (h := ax_ (h := wo_nil (ed (h := aft_normal (?_)))))))))))))))))))))
              refine c_ (h1 := ?_) (h2 := ?_)
              rotate_right 1
              focus
               intro c5
               first
               | exact dn c5
               | (have d5 := c5; try simp at d5
                  refine wc_skip (?_)
                  )
              rotate_right 1
              focus
               intro c5
               first
               | exact dn c5
               | (have d5 := c5; try simp at d5
                  refine wa_ (wc_region (w_ (a_ (h := wo_nil (e_ (h := aft_normal (wc_ret (?_))))))))
                  )
              all_goals first
              | refine aft_ret ?_
              | (refine aft_normal ?_
                 refine wa_ (wc_region (w_ (a_ (h := wo_nil (e_ (h := aft_normal (wc_ret (?_))))))))
                 )
              )
           )
        )
     )
  all_goals (refine fin_ (hr := (res_tmp rfl res_nil)) (h := ?_); (focus (simp)))
end Go.Proofs.Ytgkbmiaimjpbfaa.Ev
