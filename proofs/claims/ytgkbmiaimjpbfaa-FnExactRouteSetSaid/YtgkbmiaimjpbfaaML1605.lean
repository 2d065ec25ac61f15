/- Part 5 of the proof that the law named in the last part returns true at every argument: an evaluator of the program, shown sound, and its runs. No further conditions. -/
import Derived.Test.YtgkbmiaimjpbfaaML1604
namespace Go.Proofs.Ytgkbmiaimjpbfaa.Ev
open Go
set_option maxRecDepth 100000
set_option linter.unusedSimpArgs false
set_option linter.unusedVariables false
set_option maxHeartbeats 2000000
theorem lookR_pre (pl : List Nd) : ∀ (r : List Nd) (ws : List Int), (lookR pl r ws).1.take ws.length = ws
  | [], ws => by simp [lookR]
  | d :: r, ws => by
    unfold lookR
    split
    · have := lookR_pre pl r (ws ++ [widthN d ws])
      have h2 := congrArg (List.take ws.length) this
      rw [List.take_take, List.length_append, Nat.min_eq_left (by omega)] at h2
      rw [h2]; simp
    · simp
theorem lookR_step {pl : List Nd} : ∀ (r : List Nd) (ws : List Int), r = pl.drop ws.length → (lookR pl r ws).2 = 0 → ∀ (n : Nat) d, ws.length ≤ n → pl[n]? = some d → stepC pl d ((lookR pl r ws).1.take n) = 0
  | [], ws, e, _, n, d, hn, hd => by
    have : pl.length ≤ ws.length := by have := congrArg List.length e; simp at this; omega
    have := (List.getElem?_eq_some_iff.mp hd).1
    omega
  | x :: r, ws, e, h, n, d, hn, hd => by
    have hx : pl[ws.length]? = some x := by
      have := congrArg (fun l => l[0]?) e
      simpa using this.symm
    have hr : r = pl.drop (ws.length + 1) := by
      have := congrArg List.tail e
      simpa [List.tail_drop] using this
    by_cases hs : stepC pl x ws = 0
    · have e2 : lookR pl (x :: r) ws = lookR pl r (ws ++ [widthN x ws]) := by rw [lookR, if_pos hs]
      rw [e2] at h ⊢
      by_cases hc : n = ws.length
      · subst hc
        rw [hx] at hd
        cases hd
        have h1 := lookR_pre pl r (ws ++ [widthN x ws])
        have h2 := congrArg (List.take ws.length) h1
        rw [List.take_take, List.length_append, Nat.min_eq_left (by omega)] at h2
        rw [h2]; simpa using hs
      · exact lookR_step r (ws ++ [widthN x ws]) (by simpa using hr) h n d (by simp; omega) hd
    · rw [lookR, if_neg hs] at h
      exact absurd h hs
theorem look_step {pl : List Nd} (h : (lookN pl).2 = 0) {n : Nat} {d : Nd} (hd : pl[n]? = some d) : stepC pl d ((widN pl).take n) = 0 := by
  unfold widN
  unfold lookN at h ⊢
  split at h
  · cases h
  · rename_i hl
    rw [if_neg hl]
    split at h
    · rename_i h0
      rw [if_pos h0]
      exact lookR_step pl [] rfl h0 n d (by simp) hd
    · exact absurd h ‹_›
theorem step_fault {pl : List Nd} {d : Nd} {ws : List Int} (hs : stepC pl d ws = 0) : (1 ≤ d.op ∧ d.op ≤ 12) ∧ d = plainN d ∧ (readsN d).all (okR pl ws.length) = true ∧ faultN d ws = 0 := by
  unfold stepC at hs
  split at hs
  · cases hs
  · rename_i h1
    simp [inI] at h1
    split at hs
    · cases hs
    · rename_i h2
      split at hs
      · cases hs
      · rename_i h3
        exact ⟨by omega, by simpa using h2, by simpa using h3, hs⟩
theorem key_in {pl : List Nd} (hk : okN pl) {a : Int} (hc : nodeC pl a = 0) : 0 ≤ keyN pl a ∧ keyN pl a ≤ 4 := by
  obtain ⟨k1, k2, k3⟩ := nodeC_zero hc
  obtain ⟨d, hd, _⟩ := nd_at k2 k3
  obtain ⟨⟨o1, o2⟩, o3, o4⟩ := in_at hk k1 k2 hd
  have hl := (look_good hk k1)
  have hf := (step_fault (look_step k1 hd)).2.2.2
  have hA : d.op ≠ 1 → 1 ≤ at0 (widN pl) d.a ∧ at0 (widN pl) d.a ≤ 4 ∧ at0 ((widN pl).take a.toNat) d.a = at0 (widN pl) d.a := fun ho => by
    have := o3 ho
    have := wid_at hk k1 (a := d.a) (by omega) (by omega)
    exact ⟨this.1, this.2, at0_take (by omega)⟩
  have hB : d.op = 4 ∨ d.op = 6 → 1 ≤ at0 (widN pl) d.b ∧ at0 (widN pl) d.b ≤ 4 ∧ at0 ((widN pl).take a.toNat) d.b = at0 (widN pl) d.b := fun ho => by
    have := o4 ho
    have := wid_at hk k1 (a := d.b) (by omega) (by omega)
    exact ⟨this.1, this.2, at0_take (by omega)⟩
  simp only [keyN, ndAt_of hd]
  unfold faultN at hf
  by_cases c1 : d.op = 1
  · rw [if_pos c1] at hf
    rw [if_pos (.inl c1)]
    simp [inI] at hf; omega
  · have hA := hA c1
    rw [if_neg c1] at hf
    by_cases c2 : d.op = 2
    · rw [if_neg (by omega)]; omega
    · rw [if_neg c2] at hf
      by_cases c3 : d.op = 3
      · rw [if_neg (by omega)]; omega
      · rw [if_neg c3] at hf
        by_cases c4 : d.op = 4
        · rw [if_neg (by omega)]; omega
        · rw [if_neg c4] at hf
          by_cases c6 : d.op = 6
          · have hB := hB (.inr c6)
            rw [if_pos c6] at hf
            rw [if_pos (by omega)]
            rw [hA.2.2, hB.2.2] at hf
            have hi : inI d.col 1 (min (at0 (widN pl) d.a) (at0 (widN pl) d.b)) = true := by
              cases hi : inI d.col 1 (min (at0 (widN pl) d.a) (at0 (widN pl) d.b)) with
              | true => rfl
              | false => rw [hi] at hf; simp at hf
            simp only [inI, Bool.and_eq_true, decide_eq_true_eq] at hi
            omega
          · rw [if_neg c6] at hf
            by_cases c7 : d.op = 7
            · rw [if_pos c7, hA.2.2] at hf
              rw [if_pos (by omega)]
              have hi : inI d.col 0 (min (at0 (widN pl) d.a) 3) = true := by
                cases hi : inI d.col 0 (min (at0 (widN pl) d.a) 3) with
                | true => rfl
                | false => rw [hi] at hf; simp at hf
              simp only [inI, Bool.and_eq_true, decide_eq_true_eq] at hi
              omega
            · rw [if_neg c7] at hf
              by_cases c8 : 8 ≤ d.op ∧ d.op ≤ 10
              · rw [if_pos c8, hA.2.2] at hf
                rw [if_pos (by omega)]
                have hi : inI d.col 0 (IntKind.i64.wrap (at0 (widN pl) d.a - 1)) = true := by
                  cases hi : inI d.col 0 (IntKind.i64.wrap (at0 (widN pl) d.a - 1)) with
                  | true => rfl
                  | false => rw [hi] at hf; simp at hf
                rw [wrap_id (by omega) (by omega)] at hi
                simp only [inI, Bool.and_eq_true, decide_eq_true_eq] at hi
                omega
              · rw [if_neg (by omega)]; omega
def staysN (d : Nd) : Bool := decide (1 ≤ d.op ∧ d.op ≤ 5)
theorem e_linI (a : Int) : oc.call 228 [.int .i64 a] = some (.bool (inI a 1 5 || decide (a = 12)), []) := by
  refine fun_s rfl cd228 rfl rfl rfl (by simp; rfl) (by simp; rfl) ?_
  refine wa_ (wc_region (w_ (a_ (h := wo_nil (e_ (h := aft_normal (wa_ (wa_ (wc_region (w_ (m_ (h := wo_nil (e_ (h := aft_normal (wc_block (?_))))))))))))))))
  refine wa_ (wa_ (wc_region (w_ (bE (h := w_ (a_ (h := wo_nil (e_ (h := aft_normal (?_))))))))))
  refine c_ (h1 := ?_) (h2 := ?_)
  rotate_right 1
  focus
   intro c1
   first
   | exact dn c1
   | (have d1 := c1; try simp at d1
      refine wa_ (wc_region (w_ (bE (h := w_ (a_ (h := wo_nil (e_ (h := aft_normal (?_)))))))))
      refine c_ (h1 := ?_) (h2 := ?_)
      rotate_right 1
      focus
       intro c2
       first
       | exact dn c2
       | (have d2 := c2; try simp at d2
          refine wa_ (wc_region (w_ (bE (h := w_ (a_ (h := wo_nil (e_ (h := aft_normal (?_)))))))))
          refine c_ (h1 := ?_) (h2 := ?_)
          rotate_right 1
          focus
           intro c3
           first
           | exact dn c3
           | (have d3 := c3; try simp at d3
              refine wa_ (wc_region (w_ (bE (h := w_ (a_ (h := wo_nil (e_ (h := aft_normal (?_)))))))))
              refine c_ (h1 := ?_) (h2 := ?_)
              rotate_right 1
              focus
               intro c4
               first
               | exact dn c4
               | (have d4 := c4; try simp at d4
                  refine wa_ (wc_region (w_ (bE (h := w_ (a_ (h := wo_nil (e_ (h := aft_normal (?_)))))))))
                  refine c_ (h1 := ?_) (h2 := ?_)
                  rotate_right 1
                  focus
                   intro c5
                   first
                   | exact dn c5
                   | (have d5 := c5; try simp at d5
                      refine wc_region (w_ (bE (h := w_ (a_ (h := wo_nil (e_ (h := ?_)))))))
                      )
                  rotate_right 1
                  focus
                   intro c5
                   first
                   | exact dn c5
                   | (have d5 := c5; try simp at d5
                      refine wc_skip (?_)
                      )
                  )
              rotate_right 1
              focus
               intro c4
               first
               | exact dn c4
               | (have d4 := c4; try simp at d4
                  refine wc_skip (?_)
                  )
              )
          rotate_right 1
          focus
           intro c3
           first
           | exact dn c3
           | (have d3 := c3; try simp at d3
              refine wc_skip (?_)
              )
          )
      rotate_right 1
      focus
       intro c2
       first
       | exact dn c2
       | (have d2 := c2; try simp at d2
          refine wc_skip (?_)
          )
      )
  rotate_right 1
  focus
   intro c1
   first
   | exact dn c1
   | (have d1 := c1; try simp at d1
      refine wc_skip (?_)
      )
  all_goals first
  | (refine aft_normal ?_
     refine c_ (h1 := ?_) (h2 := ?_)
     rotate_right 1
     focus
      intro c6
      first
      | exact dn c6
      | (have d6 := c6; try simp at d6
         refine wc_skip (?_)
         )
     rotate_right 1
     focus
      intro c6
      first
      | exact dn c6
      | (have d6 := c6; try simp at d6
         refine wa_ (wc_region (w_ (a_ (h := wo_nil (e_ (h := aft_normal (wc_ret (?_))))))))
         )
     )
  all_goals first | refine blk_normal ?_ | refine blk_ret ?_
  all_goals first
  | refine aft_ret ?_
  | (refine aft_normal ?_
     refine wa_ (wc_region (w_ (a_ (h := wo_nil (e_ (h := aft_normal (wc_ret (?_))))))))
     )
  all_goals (refine fin_ (hr := (res_tmp rfl res_nil)) (h := ?_); (focus (simp [inI]; omega)))
theorem e_linS (a : Int) : oc.call 188 [.int .i64 a] = some (.bool (inI a 1 5 || decide (a = 12)), []) := by
  refine fun_s rfl cd188 rfl rfl rfl (by simp; rfl) (by simp; rfl) ?_
  refine wa_ (wc_region (w_ (a_ (h := wo_nil (e_ (h := aft_normal (wa_ (wc_region (w_ (m_ (h := w_ (ca (hc := e_l1In _ _ _) (h := w_ (m_ (h := ?_)))))))))))))))
  refine gw_ (h1 := ?_) (h2 := ?_)
  rotate_right 1
  focus
   intro c1
   refine go_ (h := go_ (h := ?_))
  rotate_right 1
  focus
   intro c1
   refine g_ (h := w_ (m_ (h := g_ (h := w_ (bE (h := ?_))))))
  all_goals
   refine w_ (pk (h := w_ (a_ (h := wo_nil (e_ (h := ?_))))))
  all_goals first
  | (refine aft_normal ?_
     refine wc_ret (?_)
     )
  all_goals (refine fin_ (hr := (res_tmp rfl res_nil)) (h := ?_); (focus (simp [inI] at * <;> grind)))
theorem e_staysI (d : Nd) : oc.call 192 [d.v false 0] = some (.bool (staysN d), []) := by
  refine fun_s rfl cd192 rfl rfl rfl (by simp; rfl) (by simp; rfl) ?_
  refine wa_ (wc_region (w_ (bx (h := w_ (a_ (h := wo_nil (e_ (h := aft_normal (wa_ (wc_region (w_ (f_ (h := w_ (l_ (h := w_ (ca (hc := e_linI _) (h := w_ (m_ (h := ?_)))))))))))))))))))
  refine gw_ (h1 := ?_) (h2 := ?_)
  rotate_right 1
  focus
   intro c1
   refine go_ (h := go_ (h := go_ (h := ?_)))
  rotate_right 1
  focus
   intro c1
   refine g_ (h := w_ (f_ (h := g_ (h := w_ (l_ (h := g_ (h := w_ (bE (h := ?_)))))))))
  all_goals
   refine w_ (pk (h := w_ (a_ (h := wo_nil (e_ (h := ?_))))))
  all_goals first
  | (refine aft_normal ?_
     refine wc_ret (?_)
     )
  all_goals (refine fin_ (hr := (res_tmp rfl res_nil)) (h := ?_); (focus (simp [staysN, inI] at * <;> grind)))
theorem e_staysS (d : Nd) : oc.call 230 [d.v false 0] = some (.bool (staysN d), []) := by
  refine fun_s rfl cd230 rfl rfl rfl (by simp; rfl) (by simp; rfl) ?_
  refine wa_ (wc_region (w_ (bx (h := w_ (a_ (h := wo_nil (e_ (h := aft_normal (wa_ (wc_region (w_ (f_ (h := w_ (l_ (h := w_ (ca (hc := e_linS _) (h := w_ (m_ (h := ?_)))))))))))))))))))
  refine gw_ (h1 := ?_) (h2 := ?_)
  rotate_right 1
  focus
   intro c1
   refine go_ (h := go_ (h := go_ (h := ?_)))
  rotate_right 1
  focus
   intro c1
   refine g_ (h := w_ (f_ (h := g_ (h := w_ (l_ (h := g_ (h := w_ (bE (h := ?_)))))))))
  all_goals
   refine w_ (pk (h := w_ (a_ (h := wo_nil (e_ (h := ?_))))))
  all_goals first
  | (refine aft_normal ?_
     refine wc_ret (?_)
     )
  all_goals (refine fin_ (hr := (res_tmp rfl res_nil)) (h := ?_); (focus (simp [staysN, inI] at * <;> grind)))
def routeC (pl : List Nd) (a m self : Int) : Int := if nodeC pl a = 0 then (if inI m 1 3 = true ∧ inI self 0 (m - 1) = true then 0 else 3) else nodeC pl a
theorem routeC_zero {pl : List Nd} {a m self : Int} (h : routeC pl a m self = 0) : nodeC pl a = 0 ∧ 1 ≤ m ∧ m ≤ 3 ∧ 0 ≤ self ∧ self < m := by
  unfold routeC at h; split at h
  · split at h
    · rename_i h1 h2; simp [inI] at h2; exact ⟨h1, by omega⟩
    · cases h
  · exact absurd h ‹_›
theorem e_routeI (pl : List Nd) (a m self : Int) (hp : pl.length < 2000000) (hk : okN pl) : oc.call 118 [.lst false 0 (nds false 0 pl), .int .i64 a, .int .i64 m, .int .i64 self] = some (.tup [.lst true 1 (ints (widN pl)), .int .i64 (routeC pl a m self)], []) := by
  refine fun_s rfl cd118 rfl rfl rfl (by simp; rfl) (by simp; rfl) ?_
  have hw : 1 ≤ m → m ≤ 3 → IntKind.i64.wrap (m - 1) = m - 1 := (fun h1 h2 => wrap_id (by omega) (by omega))
  refine wa_ (wc_region (w_ (aN (h := w_ (a_ (h := wo_nil (e_ (h := aft_normal (wa_ (wc_region (w_ (m_ (h := w_ (m_ (h := w_ (ca (hc := e_nodeC pl a hp hk) (h := w_ (m_ (h := ?_)))))))))))))))))))
  refine w_ (ex (h := w_ (ex (h := w_ (a_ (h := w_ (a_ (h := wo_nil (e_ (h := aft_normal (wa_ (wa_ (wc_region (w_ (m_ (h := w_ (bE (h := w_ (m_ (h := ?_))))))))))))))))))))
  refine gw_ (h1 := ?_) (h2 := ?_)
  rotate_right 1
  focus
   intro c1
   first
   | exact dn c1
   | (have d1 := c1; try simp at d1
      refine go_ (h := go_ (h := go_ (h := go_ (h := ?_))))
      )
  rotate_right 1
  focus
   intro c1
   first
   | exact dn c1
   | (have d1 := c1; try simp at d1
      refine g_ (h := w_ (m_ (h := g_ (h := w_ (ca (hc := e_in _ _ _) (h := g_ (h := w_ (u_ (h := g_ (h := w_ (m_ (h := ?_))))))))))))
      )
  all_goals
   first
   | (skip
      refine goN (h := goN (h := goN (h := goN (h := goN (h := ?_)))))
      )
   | (refine gw_ (h1 := ?_) (h2 := ?_)
      rotate_right 1
      focus
       intro c2
       first
       | exact dn c2
       | (have d2 := c2; try simp at d2
          refine go_ (h := go_ (h := go_ (h := go_ (h := go_ (h := ?_)))))
          )
      rotate_right 1
      focus
       intro c2
       first
       | exact dn c2
       | (have d2 := c2; try simp at d2
          refine g_ (h := w_ (m_ (h := g_ (h := w_ (m_ (h := g_ (h := w_ (b_ (h := g_ (h := w_ (ca (hc := e_in _ _ _) (h := g_ (h := w_ (u_ (h := ?_)))))))))))))))
          )
      )
   all_goals
    first
    | (skip
       refine g_ (h := w_ (pk (h := ?_)))
       )
    | (skip
       refine go_ (h := ?_)
       )
    all_goals
     refine w_ (pk (h := wo_nil (e_ (h := ?_))))
  all_goals first
  | (refine aft_normal ?_
     refine c_ (h1 := ?_) (h2 := ?_)
     rotate_right 1
     focus
      intro c3
      first
      | exact dn c3
      | (have d3 := c3; try simp at d3
         refine wc_skip (?_)
         )
     rotate_right 1
     focus
      intro c3
      first
      | exact dn c3
      | (have d3 := c3; try simp at d3
         refine wc_region (w_ (a_ (h := wo_nil (e_ (h := ?_)))))
         )
     )
  all_goals first
  | (refine aft_normal ?_
     refine wa_ (wc_region (w_ (m_ (h := w_ (m_ (h := w_ (a_ (h := w_ (a_ (h := wo_nil (e_ (h := aft_normal (wc_ret (?_))))))))))))))
     )
  all_goals (refine fin_ (hr := (res_tmp rfl (res_tmp rfl res_nil))) (h := ?_); (focus (clear hk; simp [routeC, inI] at * <;> grind)))
theorem e_routeS (pl : List Nd) (a m self : Int) (hp : pl.length < 2000000) (hk : okN pl) : oc.call 115 [.lst false 0 (nds false 0 pl), .int .i64 a, .int .i64 m, .int .i64 self] = some (.int .i64 (routeC pl a m self), []) := by
  refine fun_s rfl cd115 rfl rfl rfl (by simp; rfl) (by simp; rfl) ?_
  have hw : 1 ≤ m → m ≤ 3 → IntKind.i64.wrap (m - 1) = m - 1 := (fun h1 h2 => wrap_id (by omega) (by omega))
  refine wa_ (wc_region (w_ (a_ (h := wo_nil (e_ (h := aft_normal (wa_ (wa_ (wc_region (w_ (m_ (h := w_ (m_ (h := w_ (ca (hc := e_l3Asked pl a hp hk) (h := w_ (a_ (h := ?_))))))))))))))))))
  refine wo_nil (e_ (h := aft_normal (wa_ (wc_region (w_ (m_ (h := w_ (bE (h := wo_nil (e_ (h := aft_normal (?_))))))))))))
  refine c_ (h1 := ?_) (h2 := ?_)
  rotate_right 1
  focus
   intro c1
   first
   | exact dn c1
   | (have d1 := c1; try simp at d1
      refine wc_skip (?_)
      )
  rotate_right 1
  focus
   intro c1
   first
   | exact dn c1
   | (have d1 := c1; try simp at d1
      refine wa_ (wc_region (w_ (m_ (h := w_ (a_ (h := wo_nil (e_ (h := aft_normal (wc_ret (?_))))))))))
      )
  all_goals first
  | refine aft_ret ?_
  | (refine aft_normal ?_
     refine wa_ (wa_ (wc_region (w_ (m_ (h := w_ (ca (hc := e_l1In _ _ _) (h := w_ (u_ (h := w_ (m_ (h := ?_)))))))))))
     refine gw_ (h1 := ?_) (h2 := ?_)
     rotate_right 1
     focus
      intro c2
      first
      | exact dn c2
      | (have d2 := c2; try simp at d2
         refine go_ (h := go_ (h := go_ (h := go_ (h := go_ (h := ?_)))))
         )
     rotate_right 1
     focus
      intro c2
      first
      | exact dn c2
      | (have d2 := c2; try simp at d2
         refine g_ (h := w_ (m_ (h := g_ (h := w_ (m_ (h := g_ (h := w_ (b_ (h := g_ (h := w_ (ca (hc := e_l1In _ _ _) (h := g_ (h := w_ (u_ (h := ?_)))))))))))))))
         )
     all_goals
      refine w_ (pk (h := wo_nil (e_ (h := ?_))))
     all_goals first
     | (refine aft_normal ?_
        refine c_ (h1 := ?_) (h2 := ?_)
        rotate_right 1
        focus
         intro c3
         first
         | exact dn c3
         | (have d3 := c3; try simp at d3
            refine wc_skip (?_)
            )
        rotate_right 1
        focus
         intro c3
         first
         | exact dn c3
         | (have d3 := c3; try simp at d3
            refine wa_ (wc_region (w_ (a_ (h := wo_nil (e_ (h := aft_normal (wc_ret (?_))))))))
            )
        )
     all_goals first
     | refine aft_ret ?_
     | (refine aft_normal ?_
        refine wa_ (wc_region (w_ (a_ (h := wo_nil (e_ (h := aft_normal (wc_ret (?_))))))))
        )
     )
  all_goals (refine fin_ (hr := (res_tmp rfl res_nil)) (h := ?_); (focus (clear hk; simp [routeC, inI] at * <;> grind)))
def dstN (pl : List Nd) (a m self : Int) (r : List Int) : Int := if staysN (ndAt pl a) = true then self else shardN m r (keyN pl a)
theorem dstN_in {pl : List Nd} {a m self : Int} {r : List Int} (h : routeC pl a m self = 0) : 0 ≤ dstN pl a m self r ∧ dstN pl a m self r < m := by
  obtain ⟨_, h1, h2, h3, h4⟩ := routeC_zero h
  unfold dstN
  split
  · omega
  · exact shardN_in (by omega)
theorem e_goI (pl : List Nd) (a m self : Int) (r : List Int) (hp : pl.length < 2000000) (hk : okN pl) (hc : routeC pl a m self = 0) (hr : r.length < 2000000) (hl : keyN pl a ≤ r.length) : oc.call 121 [.lst false 0 (nds false 0 pl), .lst false 0 (ints (widN pl)), .int .i64 a, .int .i64 m, .int .i64 self, .lst false 0 (ints r)] = some (.int .i64 (dstN pl a m self r), []) := by
  refine fun_s rfl cd121 rfl rfl rfl (by simp; rfl) (by simp; rfl) ?_
  obtain ⟨k0, k4, k5, k6, k7⟩ := routeC_zero hc
  obtain ⟨k1, k2, k3⟩ := nodeC_zero k0
  obtain ⟨d, hd, g1⟩ := nd_at k2 k3
  have hkey := key_in hk k0
  refine wa_ (wc_region (w_ (a_ (h := wo_nil (e_ (h := aft_normal (wa_ (wa_ (wc_region (w_ (m_ (h := w_ (m_ (h := w_ (x_ (h := w_ (l_ (h := ?_))))))))))))))))))
  refine w_ (ca (hc := e_staysI d) (h := wo_nil (e_ (h := aft_normal (?_)))))
  refine c_ (h1 := ?_) (h2 := ?_)
  rotate_right 1
  focus
   intro c1
   first
   | exact dn c1
   | (have d1 := c1; try simp at d1
      refine wc_skip (?_)
      )
  rotate_right 1
  focus
   intro c1
   first
   | exact dn c1
   | (have d1 := c1; try simp at d1
      refine wa_ (wc_region (w_ (m_ (h := w_ (a_ (h := wo_nil (e_ (h := aft_normal (wc_ret (?_))))))))))
      )
  all_goals first
  | refine aft_ret ?_
  | (refine aft_normal ?_
     refine wa_ (wc_region (w_ (m_ (h := w_ (m_ (h := w_ (m_ (h := w_ (m_ (h := w_ (m_ (h := w_ (ca (hc := e_keyI pl a hp hk k0) (h := w_ (ca (hc := e_shardI m _ r hr (by omega) hkey.1 hl) (h := w_ (a_ (h := wo_nil (e_ (h := aft_normal (?_)))))))))))))))))))))
     refine wc_ret (?_)
     )
  all_goals (refine fin_ (hr := (res_tmp rfl res_nil)) (h := ?_); (focus (clear hk; simp only [dstN, ndAt_of hd]; simp [d1])))
theorem e_goS (pl : List Nd) (a m self : Int) (r : List Int) (hp : pl.length < 2000000) (hk : okN pl) (hc : routeC pl a m self = 0) (hr : r.length < 2000000) (hl : keyN pl a ≤ r.length) : oc.call 197 [.lst false 0 (nds false 0 pl), .int .i64 a, .int .i64 m, .int .i64 self, .lst false 0 (ints r)] = some (.int .i64 (dstN pl a m self r), []) := by
  refine fun_s rfl cd197 rfl rfl rfl (by simp; rfl) (by simp; rfl) ?_
  obtain ⟨k0, k4, k5, k6, k7⟩ := routeC_zero hc
  obtain ⟨k1, k2, k3⟩ := nodeC_zero k0
  obtain ⟨d, hd, g1⟩ := nd_at k2 k3
  have hkey := key_in hk k0
  refine wa_ (wc_region (w_ (a_ (h := wo_nil (e_ (h := aft_normal (wa_ (wa_ (wc_region (w_ (m_ (h := w_ (m_ (h := w_ (x_ (h := w_ (l_ (h := ?_))))))))))))))))))
  refine w_ (ca (hc := e_staysS d) (h := wo_nil (e_ (h := aft_normal (?_)))))
  refine c_ (h1 := ?_) (h2 := ?_)
  rotate_right 1
  focus
   intro c1
   first
   | exact dn c1
   | (have d1 := c1; try simp at d1
      refine wc_skip (?_)
      )
  rotate_right 1
  focus
   intro c1
   first
   | exact dn c1
   | (have d1 := c1; try simp at d1
      refine wa_ (wc_region (w_ (m_ (h := w_ (a_ (h := wo_nil (e_ (h := aft_normal (wc_ret (?_))))))))))
      )
  all_goals first
  | refine aft_ret ?_
  | (refine aft_normal ?_
     refine wa_ (wc_region (w_ (m_ (h := w_ (m_ (h := w_ (m_ (h := w_ (m_ (h := w_ (ca (hc := e_keyS pl a hp hk k0) (h := w_ (ca (hc := e_shardS m _ r hr (by omega) hkey.1 hl) (h := w_ (a_ (h := wo_nil (e_ (h := aft_normal (wc_ret (?_))))))))))))))))))))
     )
  all_goals (refine fin_ (hr := (res_tmp rfl res_nil)) (h := ?_); (focus (clear hk; simp only [dstN, ndAt_of hd]; simp [d1])))
end Go.Proofs.Ytgkbmiaimjpbfaa.Ev
namespace Go.Proofs.Ytgkbmiaimjpbfaa.Ev
open Go
set_option maxRecDepth 100000
set_option linter.unusedSimpArgs false
set_option linter.unusedVariables false
set_option maxHeartbeats 2000000
def cmpL : List Int → List Int → Int
  | [], [] => 0
  | [], _ :: _ => -1
  | _ :: _, [] => 1
  | a :: r, b :: s => if a < b then -1 else if b < a then 1 else cmpL r s
theorem cmpL_anti : ∀ (a b : List Int), cmpL a b = -cmpL b a
  | [], [] => rfl
  | [], _ :: _ => rfl
  | _ :: _, [] => rfl
  | a :: r, b :: s => by
    simp only [cmpL]
    rw [cmpL_anti r s]
    split <;> split <;> first | omega | rfl
theorem e_nanI (a : Int) : oc.call 245 [.int .i64 a] = some (.bool false, []) := by
  refine fun_s rfl cd245 rfl rfl rfl (by simp; rfl) (by simp; rfl) ?_
  refine wa_ (wc_region (w_ (a_ (h := wo_nil (e_ (h := aft_normal (wa_ (wc_region (w_ (m_ (h := w_ (m_ (h := w_ (bE (h := w_ (a_ (h := wo_nil (e_ (h := ?_)))))))))))))))))))
  refine aft_normal (wc_ret (?_))
  all_goals (refine fin_ (hr := (res_tmp rfl res_nil)) (h := ?_); (focus (first | (simp_all; done) | (simp_all <;> omega) | (simp_all <;> split <;> simp_all <;> omega))))
theorem e_cmpi (a b : Int) : oc.call 220 [.int .i64 a, .int .i64 b] = some (.int .i64 (cmpI a b), []) := by
  refine fun_s rfl cd220 rfl rfl rfl (by simp; rfl) (by simp; rfl) ?_
  refine wa_ (wc_region (w_ (a_ (h := wo_nil (e_ (h := aft_normal (wa_ (wc_region (w_ (m_ (h := w_ (ca (hc := e_nanI _) (h := w_ (a_ (h := wo_nil (e_ (h := aft_normal (?_))))))))))))))))))
  refine wa_ (wc_region (w_ (m_ (h := w_ (ca (hc := e_nanI _) (h := w_ (a_ (h := wo_nil (e_ (h := aft_normal (wa_ (wa_ (wc_region (w_ (m_ (h := wo_nil (e_ (h := ?_))))))))))))))))))
  refine aft_normal (?_)
  refine c_ (h1 := ?_) (h2 := ?_)
  rotate_right 1
  focus
   intro c1
   first
   | exact dn c1
   | (have d1 := c1; try simp at d1
      refine wc_skip (?_)
      )
  rotate_right 1
  focus
   intro c1
   first
   | exact dn c1
   | (have d1 := c1; try simp at d1
      refine wa_ (wa_ (wc_region (w_ (m_ (h := wo_nil (e_ (h := aft_normal (?_))))))))
      refine c_ (h1 := ?_) (h2 := ?_)
      rotate_right 1
      focus
       intro c2
       first
       | exact dn c2
       | (have d2 := c2; try simp at d2
          refine wc_skip (?_)
          )
      rotate_right 1
      focus
       intro c2
       first
       | exact dn c2
       | (have d2 := c2; try simp at d2
          refine wa_ (wc_region (w_ (a_ (h := wo_nil (e_ (h := aft_normal (wc_ret (?_))))))))
          )
      all_goals first
      | refine aft_ret ?_
      | (refine aft_normal ?_
         refine wa_ (wc_region (w_ (a_ (h := wo_nil (e_ (h := aft_normal (wc_ret (?_))))))))
         )
      )
  all_goals first
  | refine aft_ret ?_
  | (refine aft_normal ?_
     refine wa_ (wa_ (wc_region (w_ (m_ (h := wo_nil (e_ (h := aft_normal (?_))))))))
     refine c_ (h1 := ?_) (h2 := ?_)
     rotate_right 1
     focus
      intro c3
      first
      | exact dn c3
      | (have d3 := c3; try simp at d3
         refine wc_skip (?_)
         )
     rotate_right 1
     focus
      intro c3
      first
      | exact dn c3
      | (have d3 := c3; try simp at d3
         refine wa_ (wc_region (w_ (a_ (h := wo_nil (e_ (h := aft_normal (wc_ret (?_))))))))
         )
     all_goals first
     | refine aft_ret ?_
     | (refine aft_normal ?_
        refine wa_ (wa_ (wc_region (w_ (m_ (h := w_ (m_ (h := w_ (b_ (h := wo_nil (e_ (h := aft_normal (?_))))))))))))
        refine c_ (h1 := ?_) (h2 := ?_)
        rotate_right 1
        focus
         intro c4
         first
         | exact dn c4
         | (have d4 := c4; try simp at d4
            refine wc_skip (?_)
            )
        rotate_right 1
        focus
         intro c4
         first
         | exact dn c4
         | (have d4 := c4; try simp at d4
            refine wa_ (wc_region (w_ (a_ (h := wo_nil (e_ (h := aft_normal (wc_ret (?_))))))))
            )
        all_goals first
        | refine aft_ret ?_
        | (refine aft_normal ?_
           refine wa_ (wa_ (wc_region (w_ (m_ (h := w_ (m_ (h := w_ (b_ (h := wo_nil (e_ (h := aft_normal (?_))))))))))))
           refine c_ (h1 := ?_) (h2 := ?_)
           rotate_right 1
           focus
            intro c5
            first
            | exact dn c5
            | (have d5 := c5; try simp at d5
               refine wc_skip (?_)
               )
           rotate_right 1
           focus
            intro c5
            first
            | exact dn c5
            | (have d5 := c5; try simp at d5
               refine wa_ (wc_region (w_ (a_ (h := wo_nil (e_ (h := aft_normal (wc_ret (?_))))))))
               )
           all_goals first
           | refine aft_ret ?_
           | (refine aft_normal ?_
              refine wa_ (wc_region (w_ (a_ (h := wo_nil (e_ (h := aft_normal (wc_ret (?_))))))))
              )
           )
        )
     )
  all_goals (refine fin_ (hr := (res_tmp rfl res_nil)) (h := ?_); (focus (simp [cmpI]; grind)))
theorem cmpL_pre : ∀ {a b : List Int}, a.take (min a.length b.length) = b.take (min a.length b.length) → cmpL a b = cmpI a.length b.length
  | [], [], _ => rfl
  | [], y :: s, _ => by simp [cmpL, cmpI] <;> omega
  | x :: r, [], _ => by simp [cmpL, cmpI] <;> omega
  | x :: r, y :: s, h => by
    have hm : min (x :: r).length (y :: s).length = min r.length s.length + 1 := by simp only [List.length_cons]; omega
    rw [hm, List.take_succ_cons, List.take_succ_cons, List.cons.injEq] at h
    have := cmpL_pre h.2
    simp only [cmpL, h.1, Int.lt_irrefl, if_false, this, cmpI, List.length_cons]
    split <;> split <;> first | omega | (split <;> omega) | rfl
theorem cut2 {a b : List Int} {i : Nat} (h : i < min a.length b.length) : ∃ x y, a.drop i = x :: a.drop (i + 1) ∧ b.drop i = y :: b.drop (i + 1) ∧ (a.take (min a.length b.length)).drop i = x :: (a.take (min a.length b.length)).drop (i + 1) ∧ (b.take (min a.length b.length)).drop i = y :: (b.take (min a.length b.length)).drop (i + 1) ∧
    (ints a)[(i : Int).toNat]? = some (.int .i64 x) ∧ (ints b)[(i : Int).toNat]? = some (.int .i64 y) := by
  have h1 : i < a.length := by omega
  have h2 : i < b.length := by omega
  refine ⟨a[i], b[i], List.drop_eq_getElem_cons h1, List.drop_eq_getElem_cons h2, ?_, ?_, ints_at h1, ints_at h2⟩
  · rw [List.drop_eq_getElem_cons (by simp; omega)]; simp
  · rw [List.drop_eq_getElem_cons (by simp; omega)]; simp
theorem l_cmpI (a b : List Int) (ha : a.length < 2000000) (hb : b.length < 2000000) : ∀ i : Nat, (i ≤ min a.length b.length) → ∀ s, normE 2 (some [0, 1, 11, 12]) s = ⟨[(0, .lst false 0 (ints a)), (1, .lst false 0 (ints b)), (11, .int .i64 (if (b.length : Int) < a.length then b.length else a.length)), (12, .int .i64 i)], [], 2⟩ →
    oc.loop 152 2 s = some (if (a.take (min a.length b.length)).drop i = (b.take (min a.length b.length)).drop i then (.exit 0, ⟨[(0, .lst false 0 (ints a)), (1, .lst false 0 (ints b))], [], 2⟩) else (.ret, ⟨[(0, .lst false 0 (ints a)), (1, .lst false 0 (ints b)), (4, .int .i64 (cmpL (a.drop i) (b.drop i)))], [], 2⟩)) := by
  refine loop_ind (σ := Nat) (fun i => min a.length b.length - i) _ (fun i => ⟨[(0, .lst false 0 (ints a)), (1, .lst false 0 (ints b)), (11, .int .i64 (if (b.length : Int) < a.length then b.length else a.length)), (12, .int .i64 i)], [], 2⟩) _ ?_
  intro i hi ih s hs
  refine loop_s cd152 rfl rfl hs ?_
  have hmin : (if (b.length : Int) < a.length then (b.length : Int) else a.length) = (min a.length b.length : Nat) := by split <;> omega
  refine wa_ (wc_region (w_ (b_ (h := wo_nil (e_ (h := aft_normal (wa_ (?_))))))))
  refine c_ (h1 := ?_) (h2 := ?_)
  rotate_right 1
  focus
   intro c1
   first
   | exact dn c1
   | (have d1 := c1; try simp at d1
      have c9 := c1; rw [hmin] at c9; simp at c9; have hi2 : i = min a.length b.length := (by omega)
      refine wc_exit (?_)
      )
  rotate_right 1
  focus
   intro c1
   first
   | exact dn c1
   | (have d1 := c1; try simp at d1
      have c9 := c1; rw [hmin] at c9; simp at c9; have hw := wrap_succ (i := i) (by omega); obtain ⟨x, y, e1, e2, e3, e4, g1, g2⟩ := cut2 (a := a) (b := b) (i := i) (by omega)
      refine wc_skip (?_)
      )
  all_goals first
  | refine aft_exit ?_
  | (refine aft_normal ?_
     refine wa_ (wc_block (wa_ (wc_region (w_ (m_ (h := w_ (a_ (h := wo_nil (e_ (h := aft_normal (wa_ (wc_draw (y_ (m_ (h := ax_ (h := y_ (m_ (h := ax_ (h := ?_)))))))))))))))))))
     refine y_ (x_ (h := ax_ (h := y_ (l_ (h := ax_ (h := y_ (m_ (h := ax_ (h := y_ (m_ (h := ax_ (h := y_ (x_ (h := ax_ (h := y_ (l_ (h := ax_ (h := y_ (ca (hc := e_cmp _ _) (h := ax_ (h := y_ (a_ (h := ax_ (h := wo_nil (ed (h := aft_normal (wa_ (wc_region (?_)))))))))))))))))))))))))))))
     refine w_ (m_ (h := w_ (bE (h := wo_nil (e_ (h := aft_normal (?_)))))))
     refine c_ (h1 := ?_) (h2 := ?_)
     rotate_right 1
     focus
      intro c2
      first
      | exact dn c2
      | (have d2 := c2; try simp at d2
         refine wc_skip (?_)
         )
     rotate_right 1
     focus
      intro c2
      first
      | exact dn c2
      | (have d2 := c2; try simp at d2
         refine wa_ (wc_region (w_ (m_ (h := w_ (a_ (h := wo_nil (e_ (h := aft_normal (wc_ret (?_))))))))))
         )
     all_goals first | refine blk_normal ?_ | refine blk_ret ?_
     all_goals first
     | refine aft_ret ?_
     | (refine aft_normal ?_
        refine wc_region (w_ (b_ (h := w_ (m_ (h := wo_nil (e_ (h := ?_)))))))
        )
     )
  all_goals first
  | (refine (ih (i + 1) (by omega) ?_ _ ?_).trans ?_; (focus (first | omega | (simp; done) | (simp; omega))); (focus (simp [normE, hw]; done)); (focus (simp only [cmpI] at d2; have hxy : x = y := (by grind); rw [e1, e2, e3, e4]; simp [hxy, cmpL])))
  | (apply end_leaf (ex := Ext.ret) 2 (some [0, 1, 4]); (focus (simp [normE]; rfl)); (focus (rw [e1, e2, e3, e4]; simp only [cmpI] at d2; have hxy : x ≠ y := (by grind); simp only [List.cons.injEq, hxy, false_and, if_false, cmpL, cmpI]; grind)))
  | (apply end_leaf (ex := (Ext.exit 0)) 2 (some [0, 1, 4]); (focus (simp [normE]; rfl)); (focus (rw [if_pos (by rw [List.drop_eq_nil_of_le (by simp; omega), List.drop_eq_nil_of_le (by simp; omega)])])))
theorem e_cmpRI (a b : List Int) (ha : a.length < 2000000) (hb : b.length < 2000000) : oc.call 152 [.lst false 0 (ints a), .lst false 0 (ints b)] = some (.int .i64 (cmpL a b), []) := by
  refine fun_s rfl cd152 rfl rfl rfl (by simp; rfl) (by simp; rfl) ?_
  refine wa_ (wc_region (w_ (a_ (h := wo_nil (e_ (h := aft_normal (wa_ (wa_ (wc_region (w_ (m_ (h := w_ (le (h := w_ (m_ (h := w_ (le (h := ?_))))))))))))))))))
  refine w_ (mi (h := w_ (m_ (h := wo_nil (e_ (h := aft_normal (wc_block (?_))))))))
  refine wc_loopI (l_cmpI a b ha hb 0 (by omega) _ (by simp [normE])) ?_ ?_
  rotate_right 1
  focus
   intro c1
   skip
  rotate_right 1
  focus
   intro c1
   skip
  all_goals first | refine blk_ret ?_ | refine blk_exit ?_
  all_goals first
  | refine aft_ret ?_
  | (refine aft_normal ?_
     refine wa_ (wc_region (w_ (m_ (h := w_ (le (h := w_ (m_ (h := w_ (le (h := w_ (ca (hc := e_cmpi _ _) (h := w_ (a_ (h := wo_nil (e_ (h := aft_normal (wc_ret (?_))))))))))))))))))
     )
  all_goals (refine fin_ (hr := (res_tmp rfl res_nil)) (h := ?_); (focus (first | (have h3 := cmpL_pre (a := a) (b := b) (by simpa using c1); simp [h3]; done) | simp)))
theorem l_cmpS (a b : List Int) (ha : a.length < 2000000) (hb : b.length < 2000000) : ∀ i : Nat, (i ≤ min a.length b.length) → ∀ s, normE 2 (some [0, 1, 5]) s = ⟨[(0, .lst false 0 (ints a)), (1, .lst false 0 (ints b)), (5, .int .i64 i)], [], 2⟩ →
    oc.loop 147 2 s = some (if (a.take (min a.length b.length)).drop i = (b.take (min a.length b.length)).drop i then (.exit 0, ⟨[(0, .lst false 0 (ints a)), (1, .lst false 0 (ints b))], [], 2⟩) else (.ret, ⟨[(0, .lst false 0 (ints a)), (1, .lst false 0 (ints b)), (4, .int .i64 (cmpL (a.drop i) (b.drop i)))], [], 2⟩)) := by
  refine loop_ind (σ := Nat) (fun i => min a.length b.length - i) _ (fun i => ⟨[(0, .lst false 0 (ints a)), (1, .lst false 0 (ints b)), (5, .int .i64 i)], [], 2⟩) _ ?_
  intro i hi ih s hs
  refine loop_s cd147 rfl rfl hs ?_
  refine wa_ (wa_ (wc_region (w_ (m_ (h := w_ (m_ (h := w_ (le (h := w_ (b_ (h := w_ (m_ (h := ?_)))))))))))))
  refine gw_ (h1 := ?_) (h2 := ?_)
  rotate_right 1
  focus
   intro c1
   first
   | exact dn c1
   | (have d1 := c1; try simp at d1
      refine go_ (h := go_ (h := go_ (h := go_ (h := ?_))))
      )
  rotate_right 1
  focus
   intro c1
   first
   | exact dn c1
   | (have d1 := c1; try simp at d1
      refine g_ (h := w_ (m_ (h := g_ (h := w_ (m_ (h := g_ (h := w_ (le (h := g_ (h := w_ (b_ (h := ?_))))))))))))
      )
  all_goals
   refine w_ (pk (h := wo_nil (e_ (h := ?_))))
  all_goals first
  | (refine aft_normal ?_
     refine c_ (h1 := ?_) (h2 := ?_)
     rotate_right 1
     focus
      intro c2
      first
      | exact dn c2
      | (have d2 := c2; try simp at d2
         have hi2 : i = min a.length b.length := (by omega)
         refine wc_exit (?_)
         )
     rotate_right 1
     focus
      intro c2
      first
      | exact dn c2
      | (have d2 := c2; try simp at d2
         have hw := wrap_succ (i := i) (by omega); obtain ⟨x, y, e1, e2, e3, e4, g1, g2⟩ := cut2 (a := a) (b := b) (i := i) (by omega)
         refine wc_skip (?_)
         )
     )
  all_goals first
  | refine aft_exit ?_
  | (refine aft_normal ?_
     refine wa_ (wc_block (wa_ (wa_ (wc_draw (y_ (m_ (h := ax_ (h := y_ (m_ (h := ax_ (h := y_ (x_ (h := ax_ (h := y_ (l_ (h := ax_ (h := y_ (m_ (h := ax_ (h := y_ (m_ (h := ax_ (h := y_ (x_ (h := ax_ (h := ?_))))))))))))))))))))))))))
     refine y_ (l_ (h := ax_ (h := y_ (b_ (h := ax_ (h := wo_nil (ed (h := aft_normal (?_)))))))))
     refine c_ (h1 := ?_) (h2 := ?_)
     rotate_right 1
     focus
      intro c3
      first
      | exact dn c3
      | (have d3 := c3; try simp at d3
         refine wc_skip (?_)
         )
     rotate_right 1
     focus
      intro c3
      first
      | exact dn c3
      | (have d3 := c3; try simp at d3
         refine wa_ (wc_region (w_ (a_ (h := wo_nil (e_ (h := aft_normal (wc_ret (?_))))))))
         )
     all_goals first
     | refine aft_ret ?_
     | (refine aft_normal ?_
        refine wa_ (wc_draw (y_ (m_ (h := ax_ (h := y_ (m_ (h := ax_ (h := y_ (x_ (h := ax_ (h := y_ (l_ (h := ax_ (h := y_ (m_ (h := ax_ (h := y_ (m_ (h := ax_ (h := y_ (x_ (h := ax_ (h := y_ (l_ (h := ax_ (h := y_ (b_ (h := ax_ (h := wo_nil (ed (h := ?_)))))))))))))))))))))))))))))))
        refine aft_normal (?_)
        refine c_ (h1 := ?_) (h2 := ?_)
        rotate_right 1
        focus
         intro c4
         first
         | exact dn c4
         | (have d4 := c4; try simp at d4
            refine wc_skip (?_)
            )
        rotate_right 1
        focus
         intro c4
         first
         | exact dn c4
         | (have d4 := c4; try simp at d4
            refine wa_ (wc_region (w_ (a_ (h := wo_nil (e_ (h := aft_normal (wc_ret (?_))))))))
            )
        )
     all_goals first | refine blk_normal ?_ | refine blk_ret ?_
     all_goals first
     | refine aft_ret ?_
     | (refine aft_normal ?_
        refine wc_region (w_ (m_ (h := w_ (b_ (h := w_ (a_ (h := wo_nil (e_ (h := ?_)))))))))
        )
     )
  all_goals first
  | (refine (ih (i + 1) (by omega) ?_ _ ?_).trans ?_; (focus (first | omega | (simp; done) | (simp; omega))); (focus (simp [normE, hw]; done)); (focus (have hxy : x = y := (by omega); rw [e1, e2, e3, e4]; simp [hxy, cmpL])))
  | (apply end_leaf (ex := Ext.ret) 2 (some [0, 1, 4]); (focus (simp [normE]; rfl)); (focus (have hxy : x ≠ y := (by omega); rw [e1, e2, e3, e4]; simp only [List.cons.injEq, hxy, false_and, if_false, cmpL]; rw [if_pos (by omega)])))
  | (apply end_leaf (ex := Ext.ret) 2 (some [0, 1, 4]); (focus (simp [normE]; rfl)); (focus (have hxy : x ≠ y := (by omega); rw [e1, e2, e3, e4]; simp only [List.cons.injEq, hxy, false_and, if_false, cmpL]; rw [if_neg (by omega), if_pos (by omega)])))
  | (apply end_leaf (ex := (Ext.exit 0)) 2 (some [0, 1, 4]); (focus (simp [normE]; rfl)); (focus (rw [if_pos (by rw [List.drop_eq_nil_of_le (by simp; omega), List.drop_eq_nil_of_le (by simp; omega)])])))
theorem e_cmpRS (a b : List Int) (ha : a.length < 2000000) (hb : b.length < 2000000) : oc.call 147 [.lst false 0 (ints a), .lst false 0 (ints b)] = some (.int .i64 (cmpL a b), []) := by
  refine fun_s rfl cd147 rfl rfl rfl (by simp; rfl) (by simp; rfl) ?_
  refine wa_ (wc_region (w_ (a_ (h := wo_nil (e_ (h := aft_normal (wa_ (wa_ (wc_region (w_ (a_ (h := wo_nil (e_ (h := aft_normal (wc_block (?_))))))))))))))))
  refine wc_loopI (l_cmpS a b ha hb 0 (by omega) _ (by simp [normE])) ?_ ?_
  rotate_right 1
  focus
   intro c1
   first
   | exact dn c1
   | (have d1 := c1; try simp at d1
      skip
      )
  rotate_right 1
  focus
   intro c1
   first
   | exact dn c1
   | (have d1 := c1; try simp at d1
      skip
      )
  all_goals first | refine blk_ret ?_ | refine blk_exit ?_
  all_goals first
  | refine aft_ret ?_
  | (refine aft_normal ?_
     refine wa_ (wa_ (wc_region (w_ (m_ (h := w_ (le (h := w_ (m_ (h := w_ (le (h := w_ (b_ (h := wo_nil (e_ (h := aft_normal (?_))))))))))))))))
     refine c_ (h1 := ?_) (h2 := ?_)
     rotate_right 1
     focus
      intro c2
      first
      | exact dn c2
      | (have d2 := c2; try simp at d2
         refine wc_skip (?_)
         )
     rotate_right 1
     focus
      intro c2
      first
      | exact dn c2
      | (have d2 := c2; try simp at d2
         refine wa_ (wc_region (w_ (a_ (h := wo_nil (e_ (h := aft_normal (wc_ret (?_))))))))
         )
     all_goals first
     | refine aft_ret ?_
     | (refine aft_normal ?_
        refine wa_ (wa_ (wc_region (w_ (m_ (h := w_ (le (h := w_ (m_ (h := w_ (le (h := w_ (b_ (h := wo_nil (e_ (h := aft_normal (?_))))))))))))))))
        refine c_ (h1 := ?_) (h2 := ?_)
        rotate_right 1
        focus
         intro c3
         first
         | exact dn c3
         | (have d3 := c3; try simp at d3
            refine wc_skip (?_)
            )
        rotate_right 1
        focus
         intro c3
         first
         | exact dn c3
         | (have d3 := c3; try simp at d3
            refine wa_ (wc_region (w_ (a_ (h := wo_nil (e_ (h := aft_normal (wc_ret (?_))))))))
            )
        all_goals first
        | refine aft_ret ?_
        | (refine aft_normal ?_
           refine wa_ (wc_region (w_ (a_ (h := wo_nil (e_ (h := aft_normal (wc_ret (?_))))))))
           )
        )
     )
  all_goals (refine fin_ (hr := (res_tmp rfl res_nil)) (h := ?_); (focus (first | (have h3 := cmpL_pre (a := a) (b := b) (by simpa using c1); simp [h3, cmpI]; first | omega | grind) | (simp; done))))
end Go.Proofs.Ytgkbmiaimjpbfaa.Ev
namespace Go.Proofs.Ytgkbmiaimjpbfaa.Ev
open Go
set_option maxRecDepth 100000
set_option linter.unusedSimpArgs false
set_option linter.unusedVariables false
set_option maxHeartbeats 2000000
def prevG {α : Type} (l : List α) (i : Nat) : Option α := if i = 0 then none else l[i - 1]?
theorem prevG_succ {α : Type} {l : List α} {i : Nat} {c : α} (h : l[i]? = some c) : prevG l (i + 1) = some c := by simp [prevG, h]
theorem prevE_pos {l : List Et} {i : Nat} (h0 : 0 < i) (h : i ≤ l.length) (hi : i < 2000000000) : ∃ q, q ∈ l ∧ prevG l i = some q ∧ (ets false l)[(IntKind.i64.wrap ((i : Int) - 1)).toNat]? = some (q.v false) ∧ 0 ≤ IntKind.i64.wrap ((i : Int) - 1) := by
  have hw : IntKind.i64.wrap ((i : Int) - 1) = ((i - 1 : Nat) : Int) := by rw [wrap_id (by omega) (by omega)]; omega
  have hlt : i - 1 < l.length := by omega
  refine ⟨l[i - 1], List.getElem_mem hlt, ?_, ?_, by rw [hw]; omega⟩
  · unfold prevG; rw [if_neg (by omega)]; simp [hlt]
  · rw [hw]; exact ets_at hlt
def wOk (n : Int) : Bool := inI n (-1000000000000) 1000000000000
def setR : Option Et → List Et → Int
  | _, [] => 0
  | p, e :: r => if rowF e.row = 0 then (if wOk e.w = false ∨ e.w = 0 then 3 else if (p.elim false fun q => decide (0 ≤ cmpL q.row e.row)) = true then 1 else setR (some e) r) else rowF e.row
def setC (z : List Et) : Int := if 200 < z.length then 2 else setR none z
theorem setR_row {p : Option Et} {e : Et} {r : List Et} (h : ¬ rowF e.row = 0) : setR p (e :: r) = rowF e.row := by rw [setR, if_neg h]
theorem setR_3 {p : Option Et} {e : Et} {r : List Et} (h : rowF e.row = 0) (h2 : wOk e.w = false ∨ e.w = 0) : setR p (e :: r) = 3 := by rw [setR, if_pos h, if_pos h2]
theorem setR_1 {p : Option Et} {e : Et} {r : List Et} (h : rowF e.row = 0) (h2 : ¬ (wOk e.w = false ∨ e.w = 0)) (h3 : (p.elim false fun q => decide (0 ≤ cmpL q.row e.row)) = true) : setR p (e :: r) = 1 := by rw [setR, if_pos h, if_neg h2, if_pos h3]
theorem setR_0 {p : Option Et} {e : Et} {r : List Et} (h : rowF e.row = 0) (h2 : ¬ (wOk e.w = false ∨ e.w = 0)) (h3 : ¬ (p.elim false fun q => decide (0 ≤ cmpL q.row e.row)) = true) : setR p (e :: r) = setR (some e) r := by rw [setR, if_pos h, if_neg h2, if_neg h3]
theorem l_setI (z : List Et) (hz : w_Ets z < 2000000) (hl : z.length ≤ 200) : ∀ i : Nat, (i ≤ z.length) → ∀ s, normE 1 (some [0, 9, 10, 11]) s = ⟨[(0, .lst false 0 (ets false z)), (9, .lst false 0 (ets false z)), (10, .int .i64 z.length), (11, .int .i64 i)], [], 1⟩ →
    oc.loop 76 4 s = some (if setR (prevG z i) (z.drop i) = 0 then (.exit 0, ⟨[], [], 1⟩) else (.ret, ⟨[(2, .int .i64 (setR (prevG z i) (z.drop i)))], [], 1⟩)) := by
  refine loop_ind (σ := Nat) (fun i => z.length - i) _ (fun i => ⟨[(0, .lst false 0 (ets false z)), (9, .lst false 0 (ets false z)), (10, .int .i64 z.length), (11, .int .i64 i)], [], 1⟩) _ ?_
  intro i hi ih s hs
  refine loop_s cd76 rfl rfl hs ?_
  refine wa_ (wc_region (w_ (b_ (h := wo_nil (e_ (h := aft_normal (wa_ (?_))))))))
  refine c_ (h1 := ?_) (h2 := ?_)
  rotate_right 1
  focus
   intro c1
   first
   | exact dn c1
   | (have d1 := c1; try simp at d1
      refine wc_exit (?_)
      )
  rotate_right 1
  focus
   intro c1
   first
   | exact dn c1
   | (have d1 := c1; try simp at d1
      have hw := wrap_succ (i := i) (by omega); obtain ⟨c, hx, e1, g1⟩ := ets_cut (t := false) (l := z) (i := i) (by omega); have hs1 := prevG_succ hx; have hm := w_Ets_mem (List.mem_of_getElem? hx); have hrow : c.row.length < 2000000 := (by unfold w_Et at hm; omega)
      refine wc_skip (?_)
      )
  all_goals first
  | refine aft_exit ?_
  | (refine aft_normal ?_
     refine wa_ (wc_block (wa_ (wc_region (w_ (m_ (h := w_ (x_ (h := w_ (l_ (h := w_ (al (h := w_ (a_ (h := w0 (s_ (h := wo_nil (e_ (h := aft_normal (?_)))))))))))))))))))
     refine wa_ (wa_ (wc_region (w_ (f_ (h := w_ (l_ (h := w_ (ca (hc := e_rowI c.row hrow) (h := w_ (a_ (h := wo_nil (e_ (h := aft_normal (wa_ (wc_region (w_ (m_ (h := ?_))))))))))))))))))
     refine w_ (bE (h := wo_nil (e_ (h := aft_normal (?_)))))
     refine c_ (h1 := ?_) (h2 := ?_)
     rotate_right 1
     focus
      intro c2
      first
      | exact dn c2
      | (have d2 := c2; try simp at d2
         refine wc_skip (?_)
         )
     rotate_right 1
     focus
      intro c2
      first
      | exact dn c2
      | (have d2 := c2; try simp at d2
         refine wa_ (wc_region (w_ (m_ (h := w_ (a_ (h := wo_nil (e_ (h := aft_normal (wc_ret (?_))))))))))
         )
     all_goals first
     | refine aft_ret ?_
     | (refine aft_normal ?_
        refine wa_ (wa_ (wc_region (w_ (f_ (h := w_ (l_ (h := w_ (ca (hc := e_isWeight _) (h := w_ (u_ (h := w_ (m_ (h := ?_)))))))))))))
        refine gw_ (h1 := ?_) (h2 := ?_)
        rotate_right 1
        focus
         intro c3
         first
         | exact dn c3
         | (have d3 := c3; try simp at d3
            refine go_ (h := go_ (h := go_ (h := ?_)))
            )
        rotate_right 1
        focus
         intro c3
         first
         | exact dn c3
         | (have d3 := c3; try simp at d3
            refine g_ (h := w_ (f_ (h := g_ (h := w_ (l_ (h := g_ (h := w_ (bE (h := ?_)))))))))
            )
        all_goals
         refine w_ (pk (h := wo_nil (e_ (h := ?_))))
        all_goals first
        | (refine aft_normal ?_
           refine c_ (h1 := ?_) (h2 := ?_)
           rotate_right 1
           focus
            intro c4
            first
            | exact dn c4
            | (have d4 := c4; try simp at d4
               refine wc_skip (?_)
               )
           rotate_right 1
           focus
            intro c4
            first
            | exact dn c4
            | (have d4 := c4; try simp at d4
               refine wa_ (wc_region (w_ (a_ (h := wo_nil (e_ (h := aft_normal (wc_ret (?_))))))))
               )
           )
        all_goals first
        | refine aft_ret ?_
        | (refine aft_normal ?_
           refine wa_ (wc_draw (y_ (m_ (h := ax_ (h := y_ (b_ (h := ax_ (h := y_ (m_ (h := ax_ (h := ?_)))))))))))
           refine gw_ (h1 := ?_) (h2 := ?_)
           rotate_right 1
           focus
            intro c5
            first
            | exact dn c5
            | (have d5 := c5; try simp at d5
               refine gd_ (h := gd_ (h := gd_ (h := gd_ (h := gd_ (h := gd_ (h := gd_ (h := gd_ (h := gd_ (h := gd_ (h := ?_))))))))))
               )
           rotate_right 1
           focus
            intro c5
            first
            | exact dn c5
            | (have d5 := c5; try simp at d5
               obtain ⟨q, hqm, hq, g2, g3⟩ := prevE_pos (l := z) (i := i) (by omega) (by omega) (by omega); have hm2 := w_Ets_mem hqm; have hrow2 : q.row.length < 2000000 := (by unfold w_Et at hm2; omega)
               refine g_ (h := y_ (m_ (h := ax_ (h := g_ (h := y_ (m_ (h := ax_ (h := g_ (h := y_ (b_ (h := ax_ (h := g_ (h := y_ (x_ (h := ax_ (h := g_ (h := y_ (f_ (h := ax_ (h := g_ (h := y_ (l_ (h := ax_ (h := g_ (h := y_ (f_ (h := ax_ (h := g_ (h := y_ (l_ (h := ax_ (h := g_ (h := y_ (ca (hc := e_cmpRI q.row c.row hrow2 hrow) (h := ax_ (h := g_ (h := y_ (b_ (h := ax_ (h := ?_))))))))))))))))))))))))))))))))))))))))
               )
           all_goals
            refine y_ (pk (h := ax_ (h := wo_nil (ed (h := ?_)))))
           all_goals first
           | (refine aft_normal ?_
              refine c_ (h1 := ?_) (h2 := ?_)
              rotate_right 1
              focus
               intro c6
               first
               | exact dn c6
               | (have d6 := c6; try simp at d6
                  refine wc_skip (?_)
                  )
              rotate_right 1
              focus
               intro c6
               first
               | exact dn c6
               | (have d6 := c6; try simp at d6
                  refine wa_ (wc_region (w_ (a_ (h := wo_nil (e_ (h := aft_normal (wc_ret (?_))))))))
                  )
              )
           )
        )
     all_goals first | refine blk_normal ?_ | refine blk_ret ?_
     all_goals first
     | refine aft_ret ?_
     | (refine aft_normal ?_
        refine wc_region (w_ (b_ (h := w_ (m_ (h := wo_nil (e_ (h := ?_)))))))
        )
     )
  all_goals first
  | (refine (ih (i + 1) (by omega) ?_ _ ?_).trans ?_; (focus (first | omega | (simp; done) | (simp; omega))); (focus (simp [normE, hw]; done)); (focus (rw [hs1, e1, setR_0 d2 (by simp [wOk, d3, d4]) (by first | (rw [hq]; simp; omega) | (subst d5; simp [prevG]))])))
  | (apply end_leaf (ex := Ext.ret) 1 (some [2]); (focus (simp [normE]; rfl)); (focus (rw [e1, setR_row d2]; simp [d2])))
  | (apply end_leaf (ex := Ext.ret) 1 (some [2]); (focus (simp [normE]; rfl)); (focus (rw [e1, setR_3 d2 (by first | exact .inl d3 | exact .inr d4)]; simp)))
  | (apply end_leaf (ex := Ext.ret) 1 (some [2]); (focus (simp [normE]; rfl)); (focus (rw [e1, setR_1 d2 (by simp [wOk, d3, d4]) (by rw [hq]; simp; omega)]; simp)))
  | (apply end_leaf (ex := (Ext.exit 0)) 1 (some [2]); (focus (simp [normE]; rfl)); (focus (rw [List.drop_eq_nil_of_le (by omega)]; simp [setR])))
theorem e_setI (z : List Et) (hz : w_Ets z < 2000000) : oc.call 76 [.lst false 0 (ets false z)] = some (.int .i64 (setC z), []) := by
  refine fun_s rfl cd76 rfl rfl rfl (by simp; rfl) (by simp; rfl) ?_
  refine wa_ (wc_region (w_ (a_ (h := wo_nil (e_ (h := aft_normal (wa_ (wa_ (wc_region (w_ (m_ (h := w_ (le (h := w_ (b_ (h := wo_nil (e_ (h := ?_))))))))))))))))))
  refine aft_normal (?_)
  refine c_ (h1 := ?_) (h2 := ?_)
  rotate_right 1
  focus
   intro c1
   first
   | exact dn c1
   | (have d1 := c1; try simp at d1
      refine wc_skip (?_)
      )
  rotate_right 1
  focus
   intro c1
   first
   | exact dn c1
   | (have d1 := c1; try simp at d1
      refine wa_ (wc_region (w_ (a_ (h := wo_nil (e_ (h := aft_normal (wc_ret (?_))))))))
      )
  all_goals first
  | refine aft_ret ?_
  | (refine aft_normal ?_
     refine wa_ (wa_ (wc_region (w_ (m_ (h := w_ (le (h := w_ (m_ (h := wo_nil (e_ (h := aft_normal (wc_block (?_)))))))))))))
     refine wc_loopI (l_setI z hz (by omega) 0 (by omega) _ (by simp [normE])) ?_ ?_
     rotate_right 1
     focus
      intro c2
      first
      | exact dn c2
      | (have d2 := c2; try simp at d2
         skip
         )
     rotate_right 1
     focus
      intro c2
      first
      | exact dn c2
      | (have d2 := c2; try simp at d2
         skip
         )
     all_goals first | refine blk_ret ?_ | refine blk_exit ?_
     all_goals first
     | refine aft_ret ?_
     | (refine aft_normal ?_
        refine wa_ (wc_region (w_ (a_ (h := wo_nil (e_ (h := aft_normal (wc_ret (?_))))))))
        )
     )
  all_goals (refine fin_ (hr := (res_tmp rfl res_nil)) (h := ?_); (focus (simp [setC, prevG] at * <;> grind)))
theorem l_setS (z : List Et) (hz : w_Ets z < 2000000) (hl : z.length ≤ 200) : ∀ i : Nat, (i ≤ z.length) → ∀ s, normE 1 (some [0, 3]) s = ⟨[(0, .lst false 0 (ets false z)), (3, .int .i64 i)], [], 1⟩ →
    oc.loop 70 4 s = some (if setR (prevG z i) (z.drop i) = 0 then (.exit 0, ⟨[], [], 1⟩) else (.ret, ⟨[(2, .int .i64 (setR (prevG z i) (z.drop i)))], [], 1⟩)) := by
  refine loop_ind (σ := Nat) (fun i => z.length - i) _ (fun i => ⟨[(0, .lst false 0 (ets false z)), (3, .int .i64 i)], [], 1⟩) _ ?_
  intro i hi ih s hs
  refine loop_s cd70 rfl rfl hs ?_
  refine wa_ (wa_ (wc_region (w_ (m_ (h := w_ (m_ (h := w_ (le (h := w_ (b_ (h := wo_nil (e_ (h := aft_normal (?_))))))))))))))
  refine c_ (h1 := ?_) (h2 := ?_)
  rotate_right 1
  focus
   intro c1
   first
   | exact dn c1
   | (have d1 := c1; try simp at d1
      refine wc_exit (?_)
      )
  rotate_right 1
  focus
   intro c1
   first
   | exact dn c1
   | (have d1 := c1; try simp at d1
      have hw := wrap_succ (i := i) (by omega); obtain ⟨c, hx, e1, g1⟩ := ets_cut (t := false) (l := z) (i := i) (by omega); have hs1 := prevG_succ hx; have hm := w_Ets_mem (List.mem_of_getElem? hx); have hrow : c.row.length < 2000000 := (by unfold w_Et at hm; omega)
      refine wc_skip (?_)
      )
  all_goals first
  | refine aft_exit ?_
  | (refine aft_normal ?_
     refine wa_ (wc_block (wa_ (wa_ (wc_region (w_ (m_ (h := w_ (m_ (h := w_ (x_ (h := w_ (f_ (h := w_ (l_ (h := w_ (ca (hc := e_rowS c.row hrow) (h := w_ (a_ (h := ?_)))))))))))))))))))
     refine wo_nil (e_ (h := aft_normal (wa_ (wc_region (w_ (m_ (h := w_ (bE (h := wo_nil (e_ (h := aft_normal (?_))))))))))))
     refine c_ (h1 := ?_) (h2 := ?_)
     rotate_right 1
     focus
      intro c2
      first
      | exact dn c2
      | (have d2 := c2; try simp at d2
         refine wc_skip (?_)
         )
     rotate_right 1
     focus
      intro c2
      first
      | exact dn c2
      | (have d2 := c2; try simp at d2
         refine wa_ (wc_region (w_ (m_ (h := w_ (a_ (h := wo_nil (e_ (h := aft_normal (wc_ret (?_))))))))))
         )
     all_goals first
     | refine aft_ret ?_
     | (refine aft_normal ?_
        refine wa_ (wa_ (wc_region (w_ (m_ (h := w_ (m_ (h := w_ (x_ (h := w_ (f_ (h := w_ (l_ (h := w_ (ca (hc := e_l1Weight _) (h := w_ (u_ (h := w_ (m_ (h := ?_)))))))))))))))))))
        refine gw_ (h1 := ?_) (h2 := ?_)
        rotate_right 1
        focus
         intro c3
         first
         | exact dn c3
         | (have d3 := c3; try simp at d3
            refine go_ (h := go_ (h := go_ (h := go_ (h := go_ (h := go_ (h := ?_))))))
            )
        rotate_right 1
        focus
         intro c3
         first
         | exact dn c3
         | (have d3 := c3; try simp at d3
            refine g_ (h := w_ (m_ (h := g_ (h := w_ (m_ (h := g_ (h := w_ (x_ (h := g_ (h := w_ (f_ (h := g_ (h := w_ (l_ (h := g_ (h := w_ (bE (h := ?_))))))))))))))))))
            )
        all_goals
         refine w_ (pk (h := wo_nil (e_ (h := ?_))))
        all_goals first
        | (refine aft_normal ?_
           refine c_ (h1 := ?_) (h2 := ?_)
           rotate_right 1
           focus
            intro c4
            first
            | exact dn c4
            | (have d4 := c4; try simp at d4
               refine wc_skip (?_)
               )
           rotate_right 1
           focus
            intro c4
            first
            | exact dn c4
            | (have d4 := c4; try simp at d4
               refine wa_ (wc_region (w_ (a_ (h := wo_nil (e_ (h := aft_normal (wc_ret (?_))))))))
               )
           )
        all_goals first
        | refine aft_ret ?_
        | (refine aft_normal ?_
           refine wa_ (wc_draw (y_ (m_ (h := ax_ (h := y_ (b_ (h := ax_ (h := y_ (m_ (h := ax_ (h := ?_)))))))))))
           refine gw_ (h1 := ?_) (h2 := ?_)
           rotate_right 1
           focus
            intro c5
            first
            | exact dn c5
            | (have d5 := c5; try simp at d5
               refine gd_ (h := gd_ (h := gd_ (h := gd_ (h := gd_ (h := gd_ (h := gd_ (h := gd_ (h := gd_ (h := gd_ (h := gd_ (h := gd_ (h := ?_))))))))))))
               refine gd_ (h := ?_)
               )
           rotate_right 1
           focus
            intro c5
            first
            | exact dn c5
            | (have d5 := c5; try simp at d5
               obtain ⟨q, hqm, hq, g2, g3⟩ := prevE_pos (l := z) (i := i) (by omega) (by omega) (by omega); have hm2 := w_Ets_mem hqm; have hrow2 : q.row.length < 2000000 := (by unfold w_Et at hm2; omega); have han := cmpL_anti c.row q.row
               refine g_ (h := y_ (m_ (h := ax_ (h := g_ (h := y_ (m_ (h := ax_ (h := g_ (h := y_ (x_ (h := ax_ (h := g_ (h := y_ (f_ (h := ax_ (h := g_ (h := y_ (l_ (h := ax_ (h := g_ (h := y_ (m_ (h := ax_ (h := g_ (h := y_ (m_ (h := ax_ (h := g_ (h := y_ (b_ (h := ax_ (h := g_ (h := y_ (x_ (h := ax_ (h := g_ (h := y_ (f_ (h := ax_ (h := g_ (h := y_ (l_ (h := ax_ (h := g_ (h := y_ (ca (hc := e_cmpRS c.row q.row hrow hrow2) (h := ax_ (h := ?_))))))))))))))))))))))))))))))))))))))))))))))))
               refine g_ (h := y_ (b_ (h := ax_ (h := ?_))))
               )
           all_goals
            refine y_ (pk (h := ax_ (h := wo_nil (ed (h := ?_)))))
           all_goals first
           | (refine aft_normal ?_
              refine c_ (h1 := ?_) (h2 := ?_)
              rotate_right 1
              focus
               intro c6
               first
               | exact dn c6
               | (have d6 := c6; try simp at d6
                  refine wc_skip (?_)
                  )
              rotate_right 1
              focus
               intro c6
               first
               | exact dn c6
               | (have d6 := c6; try simp at d6
                  refine wa_ (wc_region (w_ (a_ (h := wo_nil (e_ (h := aft_normal (wc_ret (?_))))))))
                  )
              )
           )
        )
     all_goals first | refine blk_normal ?_ | refine blk_ret ?_
     all_goals first
     | refine aft_ret ?_
     | (refine aft_normal ?_
        refine wc_region (w_ (m_ (h := w_ (b_ (h := w_ (a_ (h := wo_nil (e_ (h := ?_)))))))))
        )
     )
  all_goals first
  | (refine (ih (i + 1) (by omega) ?_ _ ?_).trans ?_; (focus (first | omega | (simp; done) | (simp; omega))); (focus (simp [normE, hw]; done)); (focus (rw [hs1, e1, setR_0 d2 (by simp [wOk, d3, d4]) (by first | (rw [hq]; simp; omega) | (subst d5; simp [prevG]))])))
  | (apply end_leaf (ex := Ext.ret) 1 (some [2]); (focus (simp [normE]; rfl)); (focus (rw [e1, setR_row d2]; simp [d2])))
  | (apply end_leaf (ex := Ext.ret) 1 (some [2]); (focus (simp [normE]; rfl)); (focus (rw [e1, setR_3 d2 (by first | exact .inl d3 | exact .inr d4)]; simp)))
  | (apply end_leaf (ex := Ext.ret) 1 (some [2]); (focus (simp [normE]; rfl)); (focus (rw [e1, setR_1 d2 (by simp [wOk, d3, d4]) (by rw [hq]; simp; omega)]; simp)))
  | (apply end_leaf (ex := (Ext.exit 0)) 1 (some [2]); (focus (simp [normE]; rfl)); (focus (rw [List.drop_eq_nil_of_le (by omega)]; simp [setR])))
theorem e_setS (z : List Et) (hz : w_Ets z < 2000000) : oc.call 70 [.lst false 0 (ets false z)] = some (.int .i64 (setC z), []) := by
  refine fun_s rfl cd70 rfl rfl rfl (by simp; rfl) (by simp; rfl) ?_
  refine wa_ (wc_region (w_ (a_ (h := wo_nil (e_ (h := aft_normal (wa_ (wa_ (wc_region (w_ (m_ (h := w_ (le (h := w_ (b_ (h := wo_nil (e_ (h := ?_))))))))))))))))))
  refine aft_normal (?_)
  refine c_ (h1 := ?_) (h2 := ?_)
  rotate_right 1
  focus
   intro c1
   first
   | exact dn c1
   | (have d1 := c1; try simp at d1
      refine wc_skip (?_)
      )
  rotate_right 1
  focus
   intro c1
   first
   | exact dn c1
   | (have d1 := c1; try simp at d1
      refine wa_ (wc_region (w_ (a_ (h := wo_nil (e_ (h := aft_normal (wc_ret (?_))))))))
      )
  all_goals first
  | refine aft_ret ?_
  | (refine aft_normal ?_
     refine wa_ (wa_ (wc_region (w_ (a_ (h := wo_nil (e_ (h := aft_normal (wc_block (?_)))))))))
     refine wc_loopI (l_setS z hz (by omega) 0 (by omega) _ (by simp [normE])) ?_ ?_
     rotate_right 1
     focus
      intro c2
      first
      | exact dn c2
      | (have d2 := c2; try simp at d2
         skip
         )
     rotate_right 1
     focus
      intro c2
      first
      | exact dn c2
      | (have d2 := c2; try simp at d2
         skip
         )
     all_goals first | refine blk_ret ?_ | refine blk_exit ?_
     all_goals first
     | refine aft_ret ?_
     | (refine aft_normal ?_
        refine wa_ (wc_region (w_ (a_ (h := wo_nil (e_ (h := aft_normal (wc_ret (?_))))))))
        )
     )
  all_goals (refine fin_ (hr := (res_tmp rfl res_nil)) (h := ?_); (focus (simp [setC, prevG] at * <;> grind)))
end Go.Proofs.Ytgkbmiaimjpbfaa.Ev
namespace Go.Proofs.Ytgkbmiaimjpbfaa.Ev
open Go
set_option maxRecDepth 100000
set_option linter.unusedSimpArgs false
set_option linter.unusedVariables false
set_option maxHeartbeats 2000000
def mkI (k : Int) (n : Nat) : List Int := (List.range n).map fun (i : Nat) => k + i
@[simp] theorem mkI_len {k : Int} {n : Nat} : (mkI k n).length = n := by simp [mkI]
theorem mkI_at {k : Int} {n i : Nat} (h : i < n) : (mkI k n)[i]? = some (k + i) := by simp [mkI, h]
theorem alikeL_map {α : Type} {f g : α → V} (hf : ∀ x y, (f x).alike (g y) = true) : ∀ {a b : List α}, V.alikeL (a.map f) (b.map g) = decide (a.length = b.length)
  | [], [] => rfl
  | [], _ :: _ => by simp [V.alikeL]
  | _ :: _, [] => by simp [V.alikeL]
  | x :: a, y :: b => by simp only [List.map_cons, V.alikeL, hf, Bool.true_and, alikeL_map hf (a := a) (b := b), List.length_cons, Nat.add_right_cancel_iff]
@[simp] theorem alike_ints (a b : List Int) : V.alikeL (ints a) (ints b) = decide (a.length = b.length) := alikeL_map (fun _ _ => rfl)
theorem set_drop {α : Type} {r l : List α} {i : Nat} {x : α} (h : r.drop i = l.drop i) : (r.set i x).drop (i + 1) = l.drop (i + 1) := by
  rw [List.drop_set_of_lt (by omega), ← List.drop_drop, h, List.drop_drop]
theorem wS_cut {α : Type} {f : α → Nat} {l : List α} {i : Nat} {x : α} (h : l[i]? = some x) : wS f (l.take (i + 1)) = wS f (l.take i) + f x := by
  induction l generalizing i with
  | nil => simp at h
  | cons y r ih =>
    cases i with
    | zero => simp at h; subst h; simp
    | succ i => simp at h; simp only [List.take_succ_cons, wS_cons]; rw [ih h]; omega
theorem wS_take {α : Type} {f : α → Nat} {l : List α} {i : Nat} : wS f (l.take i) ≤ wS f l := by
  induction l generalizing i with
  | nil => simp
  | cons y r ih =>
    cases i with
    | zero => simp
    | succ i => have := ih (i := i); simp only [List.take_succ_cons, wS_cons]; omega
theorem wS_len {α : Type} {f : α → Nat} (hf : ∀ x, 1 ≤ f x) {l : List α} : l.length ≤ wS f l := by
  induction l with
  | nil => simp
  | cons y r ih => have := hf y; simp only [List.length_cons, wS_cons]; omega
theorem l_mk_I (k : Int) (n : Nat) (hk : 0 ≤ k) (hb : k + n < 1000000000000000000) : ∀ x : Nat × (List Int), (x.1 ≤ n ∧ x.2.length = n ∧ x.2.take x.1 = (mkI k n).take x.1) → ∀ s, normE 2 (some [0, 1, 5]) s = ⟨[(0, .ref 0 0 n), (1, .int .i64 (k + x.1)), (5, .int .i64 x.1)], [(0, ⟨false, true, 1, ints x.2, 0⟩)], 2⟩ →
    oc.loop 82 2 s = some (.exit 0, ⟨[(1, .int .i64 (k + n))], [(0, ⟨false, true, 1, ints (mkI k n), 0⟩)], 2⟩) := by
  refine loop_ind (σ := Nat × (List Int)) (fun x => n - x.1) _ (fun x => ⟨[(0, .ref 0 0 n), (1, .int .i64 (k + x.1)), (5, .int .i64 x.1)], [(0, ⟨false, true, 1, ints x.2, 0⟩)], 2⟩) _ ?_
  rintro ⟨i, r⟩ hi ih s hs
  simp only at hi
  refine loop_s cd82 rfl rfl hs ?_
  obtain ⟨hi1, hi2, hi3⟩ := hi
  refine wa_ (wa_ (wc_region (w_ (m_ (h := w_ (m_ (h := w_ (le (h := w_ (b_ (h := wo_nil (e_ (h := aft_normal (?_))))))))))))))
  refine c_ (h1 := ?_) (h2 := ?_)
  rotate_right 1
  focus
   intro c1
   simp at c1; obtain rfl : i = n := (by omega); obtain rfl : r = mkI k i := (by rw [List.take_of_length_le (by omega), List.take_of_length_le (by simp)] at hi3; exact hi3)
   refine wc_exit (?_)
  rotate_right 1
  focus
   intro c1
   simp at c1; have hw := wrap_succ (i := i) (by omega); obtain ⟨y, hy⟩ : ∃ y, r[i]? = some y := (List.getElem?_eq_some_iff.2 ⟨by omega, rfl⟩ |> fun h => ⟨_, h⟩); have g2 : (ints r)[i]? = some (.int .i64 y) := (by simp [ints, hy]); have hw2 : IntKind.i64.wrap (k + (i : Int) + 1) = k + ((i + 1 : Nat) : Int) := (wrap_id (by omega) (by omega)).trans (by omega)
   refine wc_skip (?_)
  all_goals first
  | refine aft_exit ?_
  | (refine aft_normal ?_
     refine wa_ (wc_block (wa_ (wc_region (w_ (m_ (h := w_ (m_ (h := w_ (m_ (h := w_ (x_ (h := w0 (s_ (h := wo_nil (e_ (h := aft_normal (wc_region (?_))))))))))))))))))
     refine w_ (m_ (h := w_ (b_ (h := w_ (a_ (h := wo_nil (e_ (h := blk_normal (aft_normal (wc_region (w_ (m_ (h := w_ (b_ (h := w_ (a_ (h := wo_nil (e_ (h := ?_)))))))))))))))))))
     )
  all_goals first
  | (refine (ih ((i + 1, r.set i (k + i))) (⟨by simp; omega, by simpa using hi2, set_take hi3 (by simpa using hi2) (mkI_at (by omega))⟩) ?_ _ ?_).trans ?_; (focus (first | omega | (simp; done) | (simp; omega))); (focus (simp [normE, hw, hw2]; done)); (focus (rfl)))
  | (apply end_leaf (ex := (Ext.exit 0)) 2 (some [1]); (focus (simp [normE]; rfl)); (focus (simp)))
theorem mk_I (k : Int) (l : List Int) (hk : 0 ≤ k) (hb : k + (l.length : Nat) < 1000000000000000000) : oc.call 82 [.iol 1 (ints l), .int .i64 k] = some (.int .i64 (k + l.length), [.lst true 1 (ints (mkI k l.length))]) := by
  refine fun_s rfl cd82 rfl rfl rfl (by simp; rfl) (by simp; rfl) ?_
  refine wa_ (wc_region (w_ (a_ (h := wo_nil (e_ (h := aft_normal (wa_ (wa_ (wc_region (w_ (a_ (h := wo_nil (e_ (h := aft_normal (wc_block (?_))))))))))))))))
  refine wc_loop (l_mk_I k l.length hk hb (0, l) (by simp) _ (by simp [normE])) ?_
  refine blk_exit (aft_normal (wa_ (wc_region (w_ (m_ (h := w_ (a_ (h := wo_nil (e_ (h := aft_normal (wc_ret (?_))))))))))))
  all_goals (refine fin_ (hr := (res_tmp rfl res_nil)) (h := ?_); (focus (first | (simp_all; done) | (simp_all <;> omega) | (simp_all <;> split <;> simp_all <;> omega))))
theorem l_held_I (k : Int) (n : Nat) (hk : 0 ≤ k) (hb : k + n < 1000000000000000000) : ∀ i : Nat, (i ≤ n) → ∀ s, normE 2 (some [0, 1, 5]) s = ⟨[(0, .lst false 0 (ints (mkI k n))), (1, .int .i64 (k + i)), (5, .int .i64 i)], [], 2⟩ →
    oc.loop 181 2 s = some (.exit 0, ⟨[(1, .int .i64 (k + n))], [], 2⟩) := by
  refine loop_ind (σ := Nat) (fun i => n - i) _ (fun i => ⟨[(0, .lst false 0 (ints (mkI k n))), (1, .int .i64 (k + i)), (5, .int .i64 i)], [], 2⟩) _ ?_
  intro i hi ih s hs
  refine loop_s cd181 rfl rfl hs ?_
  refine wa_ (wa_ (wc_region (w_ (m_ (h := w_ (m_ (h := w_ (le (h := w_ (b_ (h := wo_nil (e_ (h := aft_normal (?_))))))))))))))
  refine c_ (h1 := ?_) (h2 := ?_)
  rotate_right 1
  focus
   intro c1
   first
   | exact dn c1
   | (have d1 := c1; try simp at d1
      refine wc_exit (?_)
      )
  rotate_right 1
  focus
   intro c1
   first
   | exact dn c1
   | (have d1 := c1; try simp at d1
      have hw := wrap_succ (i := i) (by omega); have g2 : (ints (mkI k n))[i]? = some (.int .i64 (k + i)) := (by simp [ints, mkI_at (show i < n by simpa using d1)]); have hw2 : IntKind.i64.wrap (k + (i : Int) + 1) = k + ((i + 1 : Nat) : Int) := (wrap_id (by omega) (by omega)).trans (by omega)
      refine wc_skip (?_)
      )
  all_goals first
  | refine aft_exit ?_
  | (refine aft_normal ?_
     refine wa_ (wc_block (wa_ (wa_ (wc_region (w_ (m_ (h := w_ (m_ (h := w_ (x_ (h := w_ (l_ (h := w_ (m_ (h := w_ (bE (h := wo_nil (e_ (h := ?_)))))))))))))))))))
     refine aft_normal (?_)
     refine c_ (h1 := ?_) (h2 := ?_)
     rotate_right 1
     focus
      intro c2
      first
      | exact dn c2
      | (have d2 := c2; try simp at d2
         refine wc_skip (?_)
         )
     rotate_right 1
     focus
      intro c2
      first
      | exact dn c2
      | (have d2 := c2; try simp at d2
         refine wa_ (wc_region (w_ (a_ (h := wo_nil (e_ (h := aft_normal (wc_ret (?_))))))))
         )
     all_goals first
     | refine aft_ret ?_
     | (refine aft_normal ?_
        refine wc_region (w_ (m_ (h := w_ (b_ (h := w_ (a_ (h := wo_nil (e_ (h := ?_)))))))))
        )
     all_goals first | refine blk_normal ?_ | refine blk_ret ?_
     all_goals first
     | refine aft_ret ?_
     | (refine aft_normal ?_
        refine wc_region (w_ (m_ (h := w_ (b_ (h := w_ (a_ (h := wo_nil (e_ (h := ?_)))))))))
        )
     )
  all_goals first
  | (refine (ih (i + 1) (by omega) ?_ _ ?_).trans ?_; (focus (first | omega | (simp; done) | (simp; omega))); (focus (simp [normE, hw, hw2]; done)); (focus (rfl)))
  | (apply end_leaf (ex := (Ext.exit 0)) 2 (some [1, 4]); (focus (simp [normE]; rfl)); (focus (simp; omega)))
theorem held_I (k : Int) (n : Nat) (hk : 0 ≤ k) (hb : k + n < 1000000000000000000) : oc.call 181 [.lst false 0 (ints (mkI k n)), .int .i64 k] = some (.int .i64 (k + n), []) := by
  refine fun_s rfl cd181 rfl rfl rfl (by simp; rfl) (by simp; rfl) ?_
  refine wa_ (wc_region (w_ (a_ (h := wo_nil (e_ (h := aft_normal (wa_ (wa_ (wc_region (w_ (a_ (h := wo_nil (e_ (h := aft_normal (wc_block (?_))))))))))))))))
  refine wc_loop (l_held_I k n hk hb 0 (by omega) _ (by simp [normE])) ?_
  first | refine blk_ret ?_ | refine blk_exit ?_
  all_goals first
  | refine aft_ret ?_
  | (refine aft_normal ?_
     refine wa_ (wc_region (w_ (m_ (h := w_ (a_ (h := wo_nil (e_ (h := aft_normal (wc_ret (?_))))))))))
     )
  all_goals (refine fin_ (hr := (res_tmp rfl res_nil)) (h := ?_); (focus (first | (simp_all; done) | (simp_all <;> omega) | (simp_all <;> split <;> simp_all <;> omega))))
def cn_Ct (x : Ct) : Nat := 1 + 1 + 1
def mk_Ct (k : Int) (x : Ct) : Ct := ⟨k, k + 1, k + 1 + 1⟩
@[simp] theorem mk_Ct_pl (k : Int) (x : Ct) : (mk_Ct k x).pl = k := rfl
@[simp] theorem mk_Ct_ep (k : Int) (x : Ct) : (mk_Ct k x).ep = k + 1 := rfl
@[simp] theorem mk_Ct_n (k : Int) (x : Ct) : (mk_Ct k x).n = k + 1 + 1 := rfl
def mk_Cts (k : Int) : List Ct → List Ct
  | [] => []
  | x :: r => mk_Ct k x :: mk_Cts (k + (cn_Ct x : Nat)) r
@[simp] theorem mk_Cts_len {k : Int} {l : List Ct} : (mk_Cts k l).length = l.length := by
  induction l generalizing k with
  | nil => rfl
  | cons x r ih => simp [mk_Cts, ih]
@[simp] theorem mk_Cts_take {k : Int} {l : List Ct} : (mk_Cts k l).take l.length = mk_Cts k l := List.take_of_length_le (by simp)
@[simp] theorem alike_cts (a b : List Ct) : V.alikeL (cts a) (cts b) = decide (a.length = b.length) := alikeL_map (fun _ _ => rfl)
def cn_Nd (x : Nd) : Nat := 1 + 1 + 1 + 1 + 1 + 1 + x.cells.length
theorem cn_Nd_pos (x : Nd) : 1 ≤ cn_Nd x := by unfold cn_Nd; omega
def cn_Nds (l : List Nd) : Nat := wS cn_Nd l
theorem cn_Nds_len {l : List Nd} : l.length ≤ cn_Nds l := wS_len cn_Nd_pos
def mk_Nd (k : Int) (x : Nd) : Nd := ⟨k, k + 1, k + 1 + 1, k + 1 + 1 + 1, k + 1 + 1 + 1 + 1, k + 1 + 1 + 1 + 1 + 1, mkI (k + 1 + 1 + 1 + 1 + 1 + 1) x.cells.length⟩
@[simp] theorem mk_Nd_op (k : Int) (x : Nd) : (mk_Nd k x).op = k := rfl
@[simp] theorem mk_Nd_a (k : Int) (x : Nd) : (mk_Nd k x).a = k + 1 := rfl
@[simp] theorem mk_Nd_b (k : Int) (x : Nd) : (mk_Nd k x).b = k + 1 + 1 := rfl
@[simp] theorem mk_Nd_col (k : Int) (x : Nd) : (mk_Nd k x).col = k + 1 + 1 + 1 := rfl
@[simp] theorem mk_Nd_test (k : Int) (x : Nd) : (mk_Nd k x).test = k + 1 + 1 + 1 + 1 := rfl
@[simp] theorem mk_Nd_value (k : Int) (x : Nd) : (mk_Nd k x).value = k + 1 + 1 + 1 + 1 + 1 := rfl
@[simp] theorem mk_Nd_cells (k : Int) (x : Nd) : (mk_Nd k x).cells = mkI (k + 1 + 1 + 1 + 1 + 1 + 1) x.cells.length := rfl
def mk_Nds (k : Int) : List Nd → List Nd
  | [] => []
  | x :: r => mk_Nd k x :: mk_Nds (k + (cn_Nd x : Nat)) r
@[simp] theorem mk_Nds_len {k : Int} {l : List Nd} : (mk_Nds k l).length = l.length := by
  induction l generalizing k with
  | nil => rfl
  | cons x r ih => simp [mk_Nds, ih]
@[simp] theorem mk_Nds_take {k : Int} {l : List Nd} : (mk_Nds k l).take l.length = mk_Nds k l := List.take_of_length_le (by simp)
theorem mk_Nds_at {k : Int} {l : List Nd} {i : Nat} {x : Nd} (h : l[i]? = some x) : (mk_Nds k l)[i]? = some (mk_Nd (k + (cn_Nds (l.take i) : Nat)) x) := by
  induction l generalizing k i with
  | nil => simp at h
  | cons y r ih =>
    cases i with
    | zero => simp at h; subst h; simp [mk_Nds, cn_Nds]
    | succ i => simp at h; simp only [mk_Nds, List.getElem?_cons_succ, ih h, List.take_succ_cons, cn_Nds, wS_cons]; congr 2; push_cast; omega
@[simp] theorem alike_nds (t u : Bool) (s z : Nat) (a b : List Nd) : V.alikeL (nds t s a) (nds u z b) = decide (a.length = b.length) := alikeL_map (fun _ _ => rfl)
theorem l_mk_Nds (k : Int) (l : List Nd) (hk : 0 ≤ k) (hb : k + (cn_Nds l : Nat) < 1000000000000000000) : ∀ x : Nat × (List Nd), (x.1 ≤ l.length ∧ x.2.length = l.length ∧ x.2.take x.1 = (mk_Nds k l).take x.1 ∧ x.2.drop x.1 = l.drop x.1) → ∀ s, normE 2 (some [0, 1, 5]) s = ⟨[(0, .ref 0 0 l.length), (1, .int .i64 (k + (cn_Nds (l.take x.1) : Nat))), (5, .int .i64 x.1)], [(0, ⟨false, true, 7, nds true 1 x.2, 0⟩)], 2⟩ →
    oc.loop 48 2 s = some (.exit 0, ⟨[(1, .int .i64 (k + (cn_Nds l : Nat)))], [(0, ⟨false, true, 7, nds true 1 (mk_Nds k l), 0⟩)], 2⟩) := by
  refine loop_ind (σ := Nat × (List Nd)) (fun x => l.length - x.1) _ (fun x => ⟨[(0, .ref 0 0 l.length), (1, .int .i64 (k + (cn_Nds (l.take x.1) : Nat))), (5, .int .i64 x.1)], [(0, ⟨false, true, 7, nds true 1 x.2, 0⟩)], 2⟩) _ ?_
  rintro ⟨i, r⟩ hi ih s hs
  simp only at hi
  refine loop_s cd48 rfl rfl hs ?_
  obtain ⟨hi1, hi2, hi3, hi4⟩ := hi
  have hlen := cn_Nds_len (l := l)
  refine wa_ (wa_ (wc_region (w_ (m_ (h := w_ (m_ (h := w_ (le (h := w_ (b_ (h := wo_nil (e_ (h := aft_normal (?_))))))))))))))
  refine c_ (h1 := ?_) (h2 := ?_)
  rotate_right 1
  focus
   intro c1
   simp at c1; obtain rfl : i = l.length := (by omega); obtain rfl : r = mk_Nds k l := (by rw [List.take_of_length_le (by omega), List.take_of_length_le (by simp)] at hi3; exact hi3)
   refine wc_exit (?_)
  rotate_right 1
  focus
   intro c1
   simp at c1; have hw := wrap_succ (i := i) (by omega); obtain ⟨y, hx, _, _⟩ := nds_cut (t := false) (s := 0) (l := l) (i := i) c1; have hy : r[i]? = some y := (by have := congrArg (fun q => q[0]?) hi4; simpa [hx] using this); have g2 : (nds true 1 r)[i]? = some (Nd.v true 1 (y)) := (by simp [nds, hy]); have hcut := wS_cut (f := cn_Nd) hx; have hle := wS_take (f := cn_Nd) (l := l) (i := i + 1); have hcy : cn_Nd y = 1 + 1 + 1 + 1 + 1 + 1 + y.cells.length := rfl; change cn_Nds (l.take (i + 1)) = cn_Nds (l.take i) + cn_Nd y at hcut; change cn_Nds (l.take (i + 1)) ≤ cn_Nds l at hle; have hw0 : IntKind.i64.wrap (k + (cn_Nds (l.take i) : Nat) + 1) = k + (cn_Nds (l.take i) : Nat) + 1 := wrap_id (by omega) (by omega); have hw1 : IntKind.i64.wrap (k + (cn_Nds (l.take i) : Nat) + 1 + 1) = k + (cn_Nds (l.take i) : Nat) + 1 + 1 := wrap_id (by omega) (by omega); have hw2 : IntKind.i64.wrap (k + (cn_Nds (l.take i) : Nat) + 1 + 1 + 1) = k + (cn_Nds (l.take i) : Nat) + 1 + 1 + 1 := wrap_id (by omega) (by omega); have hw3 : IntKind.i64.wrap (k + (cn_Nds (l.take i) : Nat) + 1 + 1 + 1 + 1) = k + (cn_Nds (l.take i) : Nat) + 1 + 1 + 1 + 1 := wrap_id (by omega) (by omega); have hw4 : IntKind.i64.wrap (k + (cn_Nds (l.take i) : Nat) + 1 + 1 + 1 + 1 + 1) = k + (cn_Nds (l.take i) : Nat) + 1 + 1 + 1 + 1 + 1 := wrap_id (by omega) (by omega); have hw5 : IntKind.i64.wrap (k + (cn_Nds (l.take i) : Nat) + 1 + 1 + 1 + 1 + 1 + 1) = k + (cn_Nds (l.take i) : Nat) + 1 + 1 + 1 + 1 + 1 + 1 := wrap_id (by omega) (by omega); have hw6 : k + (cn_Nds (l.take i) : Nat) + 1 + 1 + 1 + 1 + 1 + 1 + (y.cells.length : Nat) = k + ((cn_Nds (l.take (i + 1)) : Nat) : Int) := (by rw [hcut]; omega)
   refine wc_skip (?_)
  all_goals first
  | refine aft_exit ?_
  | (refine aft_normal ?_
     refine wa_ (wc_block (wa_ (wc_region (w_ (m_ (h := w_ (m_ (h := w_ (m_ (h := w_ (x_ (h := w_ (f_ (h := w0 (s_ (h := wo_nil (e_ (h := aft_normal (?_)))))))))))))))))))
     refine wa_ (wc_region (w_ (m_ (h := w_ (b_ (h := w_ (a_ (h := wo_nil (e_ (h := aft_normal (wa_ (wc_region (w_ (m_ (h := w_ (m_ (h := w_ (m_ (h := ?_)))))))))))))))))))
     refine w_ (x_ (h := w_ (f_ (h := w0 (s_ (h := wo_nil (e_ (h := aft_normal (wa_ (wc_region (w_ (m_ (h := w_ (b_ (h := w_ (a_ (h := wo_nil (e_ (h := aft_normal (?_))))))))))))))))))))
     refine wa_ (wc_region (w_ (m_ (h := w_ (m_ (h := w_ (m_ (h := w_ (x_ (h := w_ (f_ (h := w0 (s_ (h := wo_nil (e_ (h := aft_normal (wa_ (wc_region (?_)))))))))))))))))))
     refine w_ (m_ (h := w_ (b_ (h := w_ (a_ (h := wo_nil (e_ (h := aft_normal (wa_ (wc_region (w_ (m_ (h := w_ (m_ (h := w_ (m_ (h := w_ (x_ (h := w_ (f_ (h := ?_)))))))))))))))))))))
     refine w0 (s_ (h := wo_nil (e_ (h := aft_normal (wa_ (wc_region (w_ (m_ (h := w_ (b_ (h := w_ (a_ (h := wo_nil (e_ (h := aft_normal (wa_ (wc_region (?_))))))))))))))))))
     refine w_ (m_ (h := w_ (m_ (h := w_ (m_ (h := w_ (x_ (h := w_ (f_ (h := w0 (s_ (h := wo_nil (e_ (h := aft_normal (wa_ (wc_region (w_ (m_ (h := w_ (b_ (h := ?_)))))))))))))))))))))
     refine w_ (a_ (h := wo_nil (e_ (h := aft_normal (wa_ (wc_region (w_ (m_ (h := w_ (m_ (h := w_ (m_ (h := w_ (x_ (h := w_ (f_ (h := w0 (s_ (h := wo_nil (e_ (h := ?_)))))))))))))))))))))
     refine aft_normal (wa_ (wc_region (w_ (m_ (h := w_ (b_ (h := w_ (a_ (h := wo_nil (e_ (h := aft_normal (wc_region (w_ (m_ (h := w_ (m_ (h := w_ (x_ (h := ?_)))))))))))))))))))
     refine w_ (f_ (h := w_ (l_ (h := w_ (m_ (h := ?_))))))
     first | refine ip (hc := (by (try simp only [hw0, hw1, hw2, hw3, hw4, hw5, hw6]); exact mk_I (k + (cn_Nds (l.take i) : Nat) + 1 + 1 + 1 + 1 + 1 + 1) y.cells (by omega) (by omega))) (h := ?_) | refine iq (hc := (by (try simp only [hw0, hw1, hw2, hw3, hw4, hw5, hw6]); exact mk_I (k + (cn_Nds (l.take i) : Nat) + 1 + 1 + 1 + 1 + 1 + 1) y.cells (by omega) (by omega))) (h := ?_)
     refine w_ (a_ (h := wo_nil (e_ (h := blk_normal (aft_normal (wc_region (w_ (m_ (h := w_ (b_ (h := w_ (a_ (h := wo_nil (e_ (h := ?_)))))))))))))))
     )
  all_goals first
  | (refine (ih ((i + 1, r.set i (mk_Nd (k + (cn_Nds (l.take i) : Nat)) y))) (⟨by simp; omega, by simpa using hi2, set_take hi3 (by simpa using hi2) (mk_Nds_at hx), set_drop hi4⟩) ?_ _ ?_).trans ?_; (focus (first | omega | (simp; done) | (simp; omega))); (focus (simp [normE, hw, hw0, hw1, hw2, hw3, hw4, hw5, hw6, mk_Nd]; done)); (focus (rfl)))
  | (apply end_leaf (ex := (Ext.exit 0)) 2 (some [1]); (focus (simp [normE]; rfl)); (focus (simp)))
theorem mkf_Nds (k : Int) (l : List Nd) (hk : 0 ≤ k) (hb : k + (cn_Nds l : Nat) < 1000000000000000000) : oc.call 48 [.iol 7 (nds true 1 l), .int .i64 k] = some (.int .i64 (k + (cn_Nds l : Nat)), [.lst true 7 (nds true 1 (mk_Nds k l))]) := by
  refine fun_s rfl cd48 rfl rfl rfl (by simp; rfl) (by simp; rfl) ?_
  refine wa_ (wc_region (w_ (a_ (h := wo_nil (e_ (h := aft_normal (wa_ (wa_ (wc_region (w_ (a_ (h := wo_nil (e_ (h := aft_normal (wc_block (?_))))))))))))))))
  refine wc_loop (l_mk_Nds k l hk hb (0, l) (by simp) _ (by simp [normE, cn_Nds])) ?_
  refine blk_exit (aft_normal (wa_ (wc_region (w_ (m_ (h := w_ (a_ (h := wo_nil (e_ (h := aft_normal (wc_ret (?_))))))))))))
  all_goals (refine fin_ (hr := (res_tmp rfl res_nil)) (h := ?_); (focus (first | (simp_all; done) | (simp_all <;> omega) | (simp_all <;> split <;> simp_all <;> omega))))
def cn_Et (x : Et) : Nat := x.row.length + 1
theorem cn_Et_pos (x : Et) : 1 ≤ cn_Et x := by unfold cn_Et; omega
def cn_Ets (l : List Et) : Nat := wS cn_Et l
theorem cn_Ets_len {l : List Et} : l.length ≤ cn_Ets l := wS_len cn_Et_pos
def mk_Et (k : Int) (x : Et) : Et := ⟨mkI (k) x.row.length, k + (x.row.length : Nat)⟩
@[simp] theorem mk_Et_row (k : Int) (x : Et) : (mk_Et k x).row = mkI (k) x.row.length := rfl
@[simp] theorem mk_Et_w (k : Int) (x : Et) : (mk_Et k x).w = k + (x.row.length : Nat) := rfl
def mk_Ets (k : Int) : List Et → List Et
  | [] => []
  | x :: r => mk_Et k x :: mk_Ets (k + (cn_Et x : Nat)) r
@[simp] theorem mk_Ets_len {k : Int} {l : List Et} : (mk_Ets k l).length = l.length := by
  induction l generalizing k with
  | nil => rfl
  | cons x r ih => simp [mk_Ets, ih]
@[simp] theorem mk_Ets_take {k : Int} {l : List Et} : (mk_Ets k l).take l.length = mk_Ets k l := List.take_of_length_le (by simp)
theorem mk_Ets_at {k : Int} {l : List Et} {i : Nat} {x : Et} (h : l[i]? = some x) : (mk_Ets k l)[i]? = some (mk_Et (k + (cn_Ets (l.take i) : Nat)) x) := by
  induction l generalizing k i with
  | nil => simp at h
  | cons y r ih =>
    cases i with
    | zero => simp at h; subst h; simp [mk_Ets, cn_Ets]
    | succ i => simp at h; simp only [mk_Ets, List.getElem?_cons_succ, ih h, List.take_succ_cons, cn_Ets, wS_cons]; congr 2; push_cast; omega
@[simp] theorem alike_ets (t u : Bool) (a b : List Et) : V.alikeL (ets t a) (ets u b) = decide (a.length = b.length) := alikeL_map (fun _ _ => rfl)
theorem l_mk_Ets (k : Int) (l : List Et) (hk : 0 ≤ k) (hb : k + (cn_Ets l : Nat) < 1000000000000000000) : ∀ x : Nat × (List Et), (x.1 ≤ l.length ∧ x.2.length = l.length ∧ x.2.take x.1 = (mk_Ets k l).take x.1 ∧ x.2.drop x.1 = l.drop x.1) → ∀ s, normE 2 (some [0, 1, 5]) s = ⟨[(0, .ref 0 0 l.length), (1, .int .i64 (k + (cn_Ets (l.take x.1) : Nat))), (5, .int .i64 x.1)], [(0, ⟨false, true, 2, ets true x.2, 0⟩)], 2⟩ →
    oc.loop 18 2 s = some (.exit 0, ⟨[(1, .int .i64 (k + (cn_Ets l : Nat)))], [(0, ⟨false, true, 2, ets true (mk_Ets k l), 0⟩)], 2⟩) := by
  refine loop_ind (σ := Nat × (List Et)) (fun x => l.length - x.1) _ (fun x => ⟨[(0, .ref 0 0 l.length), (1, .int .i64 (k + (cn_Ets (l.take x.1) : Nat))), (5, .int .i64 x.1)], [(0, ⟨false, true, 2, ets true x.2, 0⟩)], 2⟩) _ ?_
  rintro ⟨i, r⟩ hi ih s hs
  simp only at hi
  refine loop_s cd18 rfl rfl hs ?_
  obtain ⟨hi1, hi2, hi3, hi4⟩ := hi
  have hlen := cn_Ets_len (l := l)
  refine wa_ (wa_ (wc_region (w_ (m_ (h := w_ (m_ (h := w_ (le (h := w_ (b_ (h := wo_nil (e_ (h := aft_normal (?_))))))))))))))
  refine c_ (h1 := ?_) (h2 := ?_)
  rotate_right 1
  focus
   intro c1
   simp at c1; obtain rfl : i = l.length := (by omega); obtain rfl : r = mk_Ets k l := (by rw [List.take_of_length_le (by omega), List.take_of_length_le (by simp)] at hi3; exact hi3)
   refine wc_exit (?_)
  rotate_right 1
  focus
   intro c1
   simp at c1; have hw := wrap_succ (i := i) (by omega); obtain ⟨y, hx, _, _⟩ := ets_cut (t := false) (l := l) (i := i) c1; have hy : r[i]? = some y := (by have := congrArg (fun q => q[0]?) hi4; simpa [hx] using this); have g2 : (ets true r)[i]? = some (Et.v true (y)) := (by simp [ets, hy]); have hcut := wS_cut (f := cn_Et) hx; have hle := wS_take (f := cn_Et) (l := l) (i := i + 1); have hcy : cn_Et y = y.row.length + 1 := rfl; change cn_Ets (l.take (i + 1)) = cn_Ets (l.take i) + cn_Et y at hcut; change cn_Ets (l.take (i + 1)) ≤ cn_Ets l at hle; have hw1 : IntKind.i64.wrap (k + (cn_Ets (l.take i) : Nat) + (y.row.length : Nat) + 1) = k + ((cn_Ets (l.take (i + 1)) : Nat) : Int) := (by rw [hcut]; exact (wrap_id (by omega) (by omega)).trans (by omega))
   refine wc_skip (?_)
  all_goals first
  | refine aft_exit ?_
  | (refine aft_normal ?_
     refine wa_ (wc_block (wa_ (wc_region (w_ (m_ (h := w_ (m_ (h := w_ (x_ (h := w_ (f_ (h := w_ (l_ (h := w_ (m_ (h := ?_))))))))))))))))
     first | refine ip (hc := (by (try simp only [hw1]); exact mk_I (k + (cn_Ets (l.take i) : Nat)) y.row (by omega) (by omega))) (h := ?_) | refine iq (hc := (by (try simp only [hw1]); exact mk_I (k + (cn_Ets (l.take i) : Nat)) y.row (by omega) (by omega))) (h := ?_)
     refine w_ (a_ (h := wo_nil (e_ (h := aft_normal (wa_ (wc_region (w_ (m_ (h := w_ (m_ (h := w_ (m_ (h := w_ (x_ (h := w_ (f_ (h := w0 (s_ (h := wo_nil (e_ (h := ?_)))))))))))))))))))))
     refine aft_normal (wc_region (w_ (m_ (h := w_ (b_ (h := w_ (a_ (h := wo_nil (e_ (h := blk_normal (aft_normal (wc_region (w_ (m_ (h := w_ (b_ (h := w_ (a_ (h := ?_)))))))))))))))))))
     refine wo_nil (e_ (h := ?_))
     )
  all_goals first
  | (refine (ih ((i + 1, r.set i (mk_Et (k + (cn_Ets (l.take i) : Nat)) y))) (⟨by simp; omega, by simpa using hi2, set_take hi3 (by simpa using hi2) (mk_Ets_at hx), set_drop hi4⟩) ?_ _ ?_).trans ?_; (focus (first | omega | (simp; done) | (simp; omega))); (focus (simp [normE, hw, hw1, mk_Et]; done)); (focus (rfl)))
  | (apply end_leaf (ex := (Ext.exit 0)) 2 (some [1]); (focus (simp [normE]; rfl)); (focus (simp)))
theorem mkf_Ets (k : Int) (l : List Et) (hk : 0 ≤ k) (hb : k + (cn_Ets l : Nat) < 1000000000000000000) : oc.call 18 [.iol 2 (ets true l), .int .i64 k] = some (.int .i64 (k + (cn_Ets l : Nat)), [.lst true 2 (ets true (mk_Ets k l))]) := by
  refine fun_s rfl cd18 rfl rfl rfl (by simp; rfl) (by simp; rfl) ?_
  refine wa_ (wc_region (w_ (a_ (h := wo_nil (e_ (h := aft_normal (wa_ (wa_ (wc_region (w_ (a_ (h := wo_nil (e_ (h := aft_normal (wc_block (?_))))))))))))))))
  refine wc_loop (l_mk_Ets k l hk hb (0, l) (by simp) _ (by simp [normE, cn_Ets])) ?_
  refine blk_exit (aft_normal (wa_ (wc_region (w_ (m_ (h := w_ (a_ (h := wo_nil (e_ (h := aft_normal (wc_ret (?_))))))))))))
  all_goals (refine fin_ (hr := (res_tmp rfl res_nil)) (h := ?_); (focus (first | (simp_all; done) | (simp_all <;> omega) | (simp_all <;> split <;> simp_all <;> omega))))
theorem l_held_Ets (k : Int) (l : List Et) (hk : 0 ≤ k) (hb : k + (cn_Ets l : Nat) < 1000000000000000000) : ∀ i : Nat, (i ≤ l.length) → ∀ s, normE 2 (some [0, 1, 5]) s = ⟨[(0, .lst false 0 (ets false (mk_Ets k l))), (1, .int .i64 (k + (cn_Ets (l.take i) : Nat))), (5, .int .i64 i)], [], 2⟩ →
    oc.loop 95 2 s = some (.exit 0, ⟨[(1, .int .i64 (k + (cn_Ets l : Nat)))], [], 2⟩) := by
  refine loop_ind (σ := Nat) (fun i => l.length - i) _ (fun i => ⟨[(0, .lst false 0 (ets false (mk_Ets k l))), (1, .int .i64 (k + (cn_Ets (l.take i) : Nat))), (5, .int .i64 i)], [], 2⟩) _ ?_
  intro i hi ih s hs
  refine loop_s cd95 rfl rfl hs ?_
  have hlen := cn_Ets_len (l := l)
  refine wa_ (wa_ (wc_region (w_ (m_ (h := w_ (m_ (h := w_ (le (h := w_ (b_ (h := wo_nil (e_ (h := aft_normal (?_))))))))))))))
  refine c_ (h1 := ?_) (h2 := ?_)
  rotate_right 1
  focus
   intro c1
   first
   | exact dn c1
   | (have d1 := c1; try simp at d1
      obtain rfl : i = l.length := (by omega)
      refine wc_exit (?_)
      )
  rotate_right 1
  focus
   intro c1
   first
   | exact dn c1
   | (have d1 := c1; try simp at d1
      have hc1 : i < l.length := (by simpa using d1); have hw := wrap_succ (i := i) (by omega); obtain ⟨y, hx, _, _⟩ := ets_cut (t := false) (l := l) (i := i) hc1; have g2 : (ets false (mk_Ets k l))[i]? = some (Et.v false (mk_Et (k + (cn_Ets (l.take i) : Nat)) y)) := (by simp [ets, mk_Ets_at hx]); have hcut := wS_cut (f := cn_Et) hx; have hle := wS_take (f := cn_Et) (l := l) (i := i + 1); have hcy : cn_Et y = y.row.length + 1 := rfl; change cn_Ets (l.take (i + 1)) = cn_Ets (l.take i) + cn_Et y at hcut; change cn_Ets (l.take (i + 1)) ≤ cn_Ets l at hle; have hw1 : IntKind.i64.wrap (k + (cn_Ets (l.take i) : Nat) + (y.row.length : Nat) + 1) = k + ((cn_Ets (l.take (i + 1)) : Nat) : Int) := (by rw [hcut]; exact (wrap_id (by omega) (by omega)).trans (by omega))
      refine wc_skip (?_)
      )
  all_goals first
  | refine aft_exit ?_
  | (refine aft_normal ?_
     refine wa_ (wc_block (wa_ (wc_region (w_ (m_ (h := w_ (m_ (h := w_ (x_ (h := w_ (f_ (h := w_ (l_ (h := w_ (m_ (h := w_ (ca (hc := (by (try simp only [hw1]); exact held_I (k + (cn_Ets (l.take i) : Nat)) y.row.length (by omega) (by omega))) (h := w_ (a_ (h := ?_))))))))))))))))))))
     refine wo_nil (e_ (h := aft_normal (wa_ (wa_ (wc_region (w_ (m_ (h := w_ (b_ (h := wo_nil (e_ (h := aft_normal (?_)))))))))))))
     refine c_ (h1 := ?_) (h2 := ?_)
     rotate_right 1
     focus
      intro c2
      first
      | exact dn c2
      | (have d2 := c2; try simp at d2
         refine wc_skip (?_)
         )
     rotate_right 1
     focus
      intro c2
      first
      | exact dn c2
      | (have d2 := c2; try simp at d2
         refine wa_ (wc_region (w_ (a_ (h := wo_nil (e_ (h := aft_normal (wc_ret (?_))))))))
         )
     all_goals first
     | refine aft_ret ?_
     | (refine aft_normal ?_
        refine wa_ (wa_ (wc_region (w_ (m_ (h := w_ (m_ (h := w_ (x_ (h := w_ (f_ (h := w_ (l_ (h := w_ (m_ (h := w_ (bE (h := wo_nil (e_ (h := aft_normal (?_))))))))))))))))))))
        refine c_ (h1 := ?_) (h2 := ?_)
        rotate_right 1
        focus
         intro c3
         first
         | exact dn c3
         | (have d3 := c3; try simp at d3
            refine wc_skip (?_)
            )
        rotate_right 1
        focus
         intro c3
         first
         | exact dn c3
         | (have d3 := c3; try simp at d3
            refine wa_ (wc_region (w_ (a_ (h := wo_nil (e_ (h := aft_normal (wc_ret (?_))))))))
            )
        all_goals first
        | refine aft_ret ?_
        | (refine aft_normal ?_
           refine wc_region (w_ (m_ (h := w_ (b_ (h := w_ (a_ (h := wo_nil (e_ (h := ?_)))))))))
           )
        )
     all_goals first | refine blk_normal ?_ | refine blk_ret ?_
     all_goals first
     | refine aft_ret ?_
     | (refine aft_normal ?_
        refine wc_region (w_ (m_ (h := w_ (b_ (h := w_ (a_ (h := wo_nil (e_ (h := ?_)))))))))
        )
     )
  all_goals first
  | (refine (ih (i + 1) (by omega) ?_ _ ?_).trans ?_; (focus (first | omega | (simp; done) | (simp; omega))); (focus (simp [normE, hw, hw1]; done)); (focus (rfl)))
  | (apply end_leaf (ex := (Ext.exit 0)) 2 (some [1, 4]); (focus (simp [normE]; rfl)); (focus (simp)))
  | (apply end_leaf (ex := Ext.ret) 2 (some [1, 4]); (focus (simp [normE]; rfl)); (focus (exfalso; omega)))
theorem held_Ets (k : Int) (l : List Et) (hk : 0 ≤ k) (hb : k + (cn_Ets l : Nat) < 1000000000000000000) : oc.call 95 [.lst false 0 (ets false (mk_Ets k l)), .int .i64 k] = some (.int .i64 (k + (cn_Ets l : Nat)), []) := by
  refine fun_s rfl cd95 rfl rfl rfl (by simp; rfl) (by simp; rfl) ?_
  refine wa_ (wc_region (w_ (a_ (h := wo_nil (e_ (h := aft_normal (wa_ (wa_ (wc_region (w_ (a_ (h := wo_nil (e_ (h := aft_normal (wc_block (?_))))))))))))))))
  refine wc_loop (l_held_Ets k l hk hb 0 (by omega) _ (by simp [normE, cn_Ets])) ?_
  first | refine blk_ret ?_ | refine blk_exit ?_
  all_goals first
  | refine aft_ret ?_
  | (refine aft_normal ?_
     refine wa_ (wc_region (w_ (m_ (h := w_ (a_ (h := wo_nil (e_ (h := aft_normal (wc_ret (?_))))))))))
     )
  all_goals (refine fin_ (hr := (res_tmp rfl res_nil)) (h := ?_); (focus (first | (simp_all; done) | (simp_all <;> omega) | (simp_all <;> split <;> simp_all <;> omega))))
end Go.Proofs.Ytgkbmiaimjpbfaa.Ev
namespace Go.Proofs.Ytgkbmiaimjpbfaa.Ev
open Go
set_option maxRecDepth 100000
set_option linter.unusedSimpArgs false
set_option linter.unusedVariables false
set_option maxHeartbeats 2000000
def etss (t : Bool) (l : List (List Et)) : List V := l.map fun x => .lst t (lz t 2) (ets t x)
@[simp] theorem etss_len (t : Bool) (l : List (List Et)) : (etss t l).length = l.length := by simp [etss]
@[simp] theorem etss_nil (t : Bool) : etss t [] = [] := rfl
@[simp] theorem etss_cons (t : Bool) (x : List Et) (l : List (List Et)) : etss t (x :: l) = .lst t (lz t 2) (ets t x) :: etss t l := rfl
@[simp] theorem etss_join (t : Bool) (l m : List (List Et)) : etss t l ++ etss t m = etss t (l ++ m) := by simp [etss]
@[simp] theorem etss_snocT (l : List (List Et)) (x : List Et) : etss true l ++ [.lst true 2 (ets true x)] = etss true (l ++ [x]) := by simp [etss]
@[simp] theorem etss_snocF (l : List (List Et)) (x : List Et) : etss false l ++ [.lst false 0 (ets false x)] = etss false (l ++ [x]) := by simp [etss]
@[simp] theorem etss_setT (l : List (List Et)) (i : Nat) (x : List Et) : (etss true l).set i (.lst true 2 (ets true x)) = etss true (l.set i x) := by simp [etss, List.map_set]
@[simp] theorem etss_setF (l : List (List Et)) (i : Nat) (x : List Et) : (etss false l).set i (.lst false 0 (ets false x)) = etss false (l.set i x) := by simp [etss, List.map_set]
theorem etss_zero (m : Nat) : List.replicate m (V.lst true 2 []) = etss true (List.replicate m []) := by simp [etss]
theorem etss_get {t : Bool} {l : List (List Et)} {i : Nat} {x : List Et} (h : l[i]? = some x) : (etss t l)[i]? = some (.lst t (lz t 2) (ets t x)) := by simp [etss, h]
theorem etss_at {t : Bool} {l : List (List Et)} {i : Nat} (h : i < l.length) : (etss t l)[(i : Int).toNat]? = some (.lst t (lz t 2) (ets t l[i])) := etss_get (by simp [h])
theorem etss_cut {t : Bool} {l : List (List Et)} {i : Nat} (h : i < l.length) : ∃ x, l[i]? = some x ∧ l.drop i = x :: l.drop (i + 1) ∧ (etss t l)[(i : Int).toNat]? = some (.lst t (lz t 2) (ets t x)) :=
  ⟨l[i], by simp [h], List.drop_eq_getElem_cons h, etss_at h⟩
@[simp] theorem etss_take (t : Bool) (n : Nat) (l : List (List Et)) : (etss t l).take n = etss t (l.take n) := by simp [etss, List.map_take]
@[simp] theorem etss_drop (t : Bool) (n : Nat) (l : List (List Et)) : (etss t l).drop n = etss t (l.drop n) := by simp [etss, List.map_drop]
@[simp] theorem etss_shareL (t : Bool) (l : List (List Et)) : V.shareL (etss t l) = etss false l := by
  induction l with
  | nil => rfl
  | cons x l ih => simp [V.shareL, ih, lst_share]
@[simp] theorem etss_tidyT (l : List (List Et)) : V.tidyL (etss true l) = true := by
  induction l with
  | nil => rfl
  | cons x l ih => simp [V.tidyL, V.tidy, ih]
theorem alikeL_lss {α β : Type} {f : α → V} {g : β → V} (hf : ∀ x y, (f x).alike (g y) = true) : ∀ {a : List α} {b : List β}, V.alikeL (a.map f) (b.map g) = decide (a.length = b.length)
  | [], [] => rfl
  | [], _ :: _ => by simp [V.alikeL]
  | _ :: _, [] => by simp [V.alikeL]
  | x :: a, y :: b => by simp only [List.map_cons, V.alikeL, hf, Bool.true_and, alikeL_lss hf (a := a) (b := b), List.length_cons, Nat.add_right_cancel_iff]
@[simp] theorem alike_etss (t u : Bool) (a b : List (List Et)) : V.alikeL (etss t a) (etss u b) = decide (a.length = b.length) := alikeL_lss (fun _ _ => rfl)
def frss (t : Bool) (l : List (List Fr)) : List V := l.map fun x => .lst t (lz t 6) (frs t x)
@[simp] theorem frss_len (t : Bool) (l : List (List Fr)) : (frss t l).length = l.length := by simp [frss]
@[simp] theorem frss_nil (t : Bool) : frss t [] = [] := rfl
@[simp] theorem frss_cons (t : Bool) (x : List Fr) (l : List (List Fr)) : frss t (x :: l) = .lst t (lz t 6) (frs t x) :: frss t l := rfl
@[simp] theorem frss_join (t : Bool) (l m : List (List Fr)) : frss t l ++ frss t m = frss t (l ++ m) := by simp [frss]
@[simp] theorem frss_snocT (l : List (List Fr)) (x : List Fr) : frss true l ++ [.lst true 6 (frs true x)] = frss true (l ++ [x]) := by simp [frss]
@[simp] theorem frss_snocF (l : List (List Fr)) (x : List Fr) : frss false l ++ [.lst false 0 (frs false x)] = frss false (l ++ [x]) := by simp [frss]
@[simp] theorem frss_setT (l : List (List Fr)) (i : Nat) (x : List Fr) : (frss true l).set i (.lst true 6 (frs true x)) = frss true (l.set i x) := by simp [frss, List.map_set]
@[simp] theorem frss_setF (l : List (List Fr)) (i : Nat) (x : List Fr) : (frss false l).set i (.lst false 0 (frs false x)) = frss false (l.set i x) := by simp [frss, List.map_set]
@[simp] theorem frss_take (t : Bool) (n : Nat) (l : List (List Fr)) : (frss t l).take n = frss t (l.take n) := by simp [frss, List.map_take]
@[simp] theorem frss_drop (t : Bool) (n : Nat) (l : List (List Fr)) : (frss t l).drop n = frss t (l.drop n) := by simp [frss, List.map_drop]
@[simp] theorem frss_shareL (t : Bool) (l : List (List Fr)) : V.shareL (frss t l) = frss false l := by
  induction l with
  | nil => rfl
  | cons x l ih => simp [V.shareL, ih, lst_share]
@[simp] theorem frss_tidyT (l : List (List Fr)) : V.tidyL (frss true l) = true := by
  induction l with
  | nil => rfl
  | cons x l ih => simp [V.tidyL, V.tidy, ih]
@[simp] theorem alike_frss (t u : Bool) (a b : List (List Fr)) : V.alikeL (frss t a) (frss u b) = decide (a.length = b.length) := alikeL_lss (fun _ _ => rfl)
end Go.Proofs.Ytgkbmiaimjpbfaa.Ev
namespace Go.Proofs.Ytgkbmiaimjpbfaa.Ev
open Go
set_option maxRecDepth 100000
set_option linter.unusedSimpArgs false
set_option linter.unusedVariables false
set_option maxHeartbeats 2000000
def cn_Etss (l : List (List Et)) : Nat := wS cn_Ets l
def mk_Etss (k : Int) : List (List Et) → List (List Et)
  | [] => []
  | x :: r => mk_Ets k x :: mk_Etss (k + (cn_Ets x : Nat)) r
@[simp] theorem mk_Etss_len {k : Int} {l : List (List Et)} : (mk_Etss k l).length = l.length := by
  induction l generalizing k with
  | nil => rfl
  | cons x r ih => simp [mk_Etss, ih]
@[simp] theorem mk_Etss_take {k : Int} {l : List (List Et)} : (mk_Etss k l).take l.length = mk_Etss k l := List.take_of_length_le (by simp)
theorem mk_Etss_at {k : Int} {l : List (List Et)} {i : Nat} {x : List Et} (h : l[i]? = some x) : (mk_Etss k l)[i]? = some (mk_Ets (k + (cn_Etss (l.take i) : Nat)) x) := by
  induction l generalizing k i with
  | nil => simp at h
  | cons y r ih =>
    cases i with
    | zero => simp at h; subst h; simp [mk_Etss, cn_Etss]
    | succ i => simp at h; simp only [mk_Etss, List.getElem?_cons_succ, ih h, List.take_succ_cons, cn_Etss, wS_cons]; congr 2; push_cast; omega
theorem l_mk_Etss (k : Int) (l : List (List Et)) (hk : 0 ≤ k) (hl : l.length < 2000000) (hb : k + (cn_Etss l : Nat) < 1000000000000000000) : ∀ x : Nat × (List (List Et)), (x.1 ≤ l.length ∧ x.2.length = l.length ∧ x.2.take x.1 = (mk_Etss k l).take x.1 ∧ x.2.drop x.1 = l.drop x.1) → ∀ s, normE 2 (some [0, 1, 5]) s = ⟨[(0, .ref 0 0 l.length), (1, .int .i64 (k + (cn_Etss (l.take x.1) : Nat))), (5, .int .i64 x.1)], [(0, ⟨false, true, 1, etss true x.2, 0⟩)], 2⟩ →
    oc.loop 32 2 s = some (.exit 0, ⟨[(1, .int .i64 (k + (cn_Etss l : Nat)))], [(0, ⟨false, true, 1, etss true (mk_Etss k l), 0⟩)], 2⟩) := by
  refine loop_ind (σ := Nat × (List (List Et))) (fun x => l.length - x.1) _ (fun x => ⟨[(0, .ref 0 0 l.length), (1, .int .i64 (k + (cn_Etss (l.take x.1) : Nat))), (5, .int .i64 x.1)], [(0, ⟨false, true, 1, etss true x.2, 0⟩)], 2⟩) _ ?_
  rintro ⟨i, r⟩ hi ih s hs
  simp only at hi
  refine loop_s cd32 rfl rfl hs ?_
  obtain ⟨hi1, hi2, hi3, hi4⟩ := hi
  refine wa_ (wa_ (wc_region (w_ (m_ (h := w_ (m_ (h := w_ (le (h := w_ (b_ (h := wo_nil (e_ (h := aft_normal (?_))))))))))))))
  refine c_ (h1 := ?_) (h2 := ?_)
  rotate_right 1
  focus
   intro c1
   simp at c1; obtain rfl : i = l.length := (by omega); obtain rfl : r = mk_Etss k l := (by rw [List.take_of_length_le (by omega), List.take_of_length_le (by simp)] at hi3; exact hi3)
   refine wc_exit (?_)
  rotate_right 1
  focus
   intro c1
   simp at c1; have hw := wrap_succ (i := i) (by omega); obtain ⟨y, hx, _, _⟩ := etss_cut (t := false) (l := l) (i := i) c1; have hy : r[i]? = some y := (by have := congrArg (fun q => q[0]?) hi4; simpa [hx] using this); have g2 : (etss true r)[i]? = some (.lst true 2 (ets true y)) := (by simp [etss, hy]); have hcut := wS_cut (f := cn_Ets) hx; have hle := wS_take (f := cn_Ets) (l := l) (i := i + 1); change cn_Etss (l.take (i + 1)) = cn_Etss (l.take i) + cn_Ets y at hcut; change cn_Etss (l.take (i + 1)) ≤ cn_Etss l at hle; have hw1 : k + (cn_Etss (l.take i) : Nat) + (cn_Ets y : Nat) = k + ((cn_Etss (l.take (i + 1)) : Nat) : Int) := (by rw [hcut]; omega)
   refine wc_skip (?_)
  all_goals first
  | refine aft_exit ?_
  | (refine aft_normal ?_
     refine wa_ (wc_block (wc_region (w_ (m_ (h := w_ (m_ (h := w_ (x_ (h := w_ (l_ (h := w_ (m_ (h := ?_)))))))))))))
     first | refine ip (hc := mkf_Ets (k + (cn_Etss (l.take i) : Nat)) y (by omega) (by omega)) (h := ?_) | refine iq (hc := mkf_Ets (k + (cn_Etss (l.take i) : Nat)) y (by omega) (by omega)) (h := ?_)
     refine w_ (a_ (h := wo_nil (e_ (h := blk_normal (aft_normal (wc_region (w_ (m_ (h := w_ (b_ (h := w_ (a_ (h := wo_nil (e_ (h := ?_)))))))))))))))
     )
  all_goals first
  | (refine (ih ((i + 1, r.set i (mk_Ets (k + (cn_Etss (l.take i) : Nat)) y))) (⟨by simp; omega, by simpa using hi2, set_take hi3 (by simpa using hi2) (mk_Etss_at hx), set_drop hi4⟩) ?_ _ ?_).trans ?_; (focus (first | omega | (simp; done) | (simp; omega))); (focus (simp [normE, hw, hw1]; done)); (focus (rfl)))
  | (apply end_leaf (ex := (Ext.exit 0)) 2 (some [1]); (focus (simp [normE]; rfl)); (focus (simp)))
theorem mkf_Etss (k : Int) (l : List (List Et)) (hk : 0 ≤ k) (hl : l.length < 2000000) (hb : k + (cn_Etss l : Nat) < 1000000000000000000) : oc.call 32 [.iol 1 (etss true l), .int .i64 k] = some (.int .i64 (k + (cn_Etss l : Nat)), [.lst true 1 (etss true (mk_Etss k l))]) := by
  refine fun_s rfl cd32 rfl rfl rfl (by simp; rfl) (by simp; rfl) ?_
  refine wa_ (wc_region (w_ (a_ (h := wo_nil (e_ (h := aft_normal (wa_ (wa_ (wc_region (w_ (a_ (h := wo_nil (e_ (h := aft_normal (wc_block (?_))))))))))))))))
  refine wc_loop (l_mk_Etss k l hk hl hb (0, l) (by simp) _ (by simp [normE, cn_Etss])) ?_
  refine blk_exit (aft_normal (wa_ (wc_region (w_ (m_ (h := w_ (a_ (h := wo_nil (e_ (h := aft_normal (wc_ret (?_))))))))))))
  all_goals (refine fin_ (hr := (res_tmp rfl res_nil)) (h := ?_); (focus (first | (simp_all; done) | (simp_all <;> omega) | (simp_all <;> split <;> simp_all <;> omega))))
theorem l_held_Etss (k : Int) (l : List (List Et)) (hk : 0 ≤ k) (hl : l.length < 2000000) (hb : k + (cn_Etss l : Nat) < 1000000000000000000) : ∀ i : Nat, (i ≤ l.length) → ∀ s, normE 2 (some [0, 1, 5]) s = ⟨[(0, .lst false 0 (etss false (mk_Etss k l))), (1, .int .i64 (k + (cn_Etss (l.take i) : Nat))), (5, .int .i64 i)], [], 2⟩ →
    oc.loop 83 2 s = some (.exit 0, ⟨[(1, .int .i64 (k + (cn_Etss l : Nat)))], [], 2⟩) := by
  refine loop_ind (σ := Nat) (fun i => l.length - i) _ (fun i => ⟨[(0, .lst false 0 (etss false (mk_Etss k l))), (1, .int .i64 (k + (cn_Etss (l.take i) : Nat))), (5, .int .i64 i)], [], 2⟩) _ ?_
  intro i hi ih s hs
  refine loop_s cd83 rfl rfl hs ?_
  refine wa_ (wa_ (wc_region (w_ (m_ (h := w_ (m_ (h := w_ (le (h := w_ (b_ (h := wo_nil (e_ (h := aft_normal (?_))))))))))))))
  refine c_ (h1 := ?_) (h2 := ?_)
  rotate_right 1
  focus
   intro c1
   first
   | exact dn c1
   | (have d1 := c1; try simp at d1
      obtain rfl : i = l.length := (by omega)
      refine wc_exit (?_)
      )
  rotate_right 1
  focus
   intro c1
   first
   | exact dn c1
   | (have d1 := c1; try simp at d1
      have hc1 : i < l.length := (by simpa using d1); have hw := wrap_succ (i := i) (by omega); obtain ⟨y, hx, _, _⟩ := etss_cut (t := false) (l := l) (i := i) hc1; have g2 : (etss false (mk_Etss k l))[i]? = some (.lst false 0 (ets false (mk_Ets (k + (cn_Etss (l.take i) : Nat)) y))) := (by simp [etss, mk_Etss_at hx]); have hcut := wS_cut (f := cn_Ets) hx; have hle := wS_take (f := cn_Ets) (l := l) (i := i + 1); change cn_Etss (l.take (i + 1)) = cn_Etss (l.take i) + cn_Ets y at hcut; change cn_Etss (l.take (i + 1)) ≤ cn_Etss l at hle; have hw1 : k + (cn_Etss (l.take i) : Nat) + (cn_Ets y : Nat) = k + ((cn_Etss (l.take (i + 1)) : Nat) : Int) := (by rw [hcut]; omega)
      refine wc_skip (?_)
      )
  all_goals first
  | refine aft_exit ?_
  | (refine aft_normal ?_
     refine wa_ (wc_block (wa_ (wc_region (w_ (m_ (h := w_ (m_ (h := w_ (x_ (h := w_ (l_ (h := w_ (m_ (h := w_ (ca (hc := held_Ets (k + (cn_Etss (l.take i) : Nat)) y (by omega) (by omega)) (h := w_ (a_ (h := wo_nil (e_ (h := ?_))))))))))))))))))))
     refine aft_normal (wa_ (wc_region (w_ (m_ (h := w_ (b_ (h := wo_nil (e_ (h := aft_normal (?_))))))))))
     refine c_ (h1 := ?_) (h2 := ?_)
     rotate_right 1
     focus
      intro c2
      first
      | exact dn c2
      | (have d2 := c2; try simp at d2
         refine wc_skip (?_)
         )
     rotate_right 1
     focus
      intro c2
      first
      | exact dn c2
      | (have d2 := c2; try simp at d2
         refine wa_ (wc_region (w_ (a_ (h := wo_nil (e_ (h := aft_normal (wc_ret (?_))))))))
         )
     all_goals first | refine blk_normal ?_ | refine blk_ret ?_
     all_goals first
     | refine aft_ret ?_
     | (refine aft_normal ?_
        refine wc_region (w_ (m_ (h := w_ (b_ (h := w_ (a_ (h := wo_nil (e_ (h := ?_)))))))))
        )
     )
  all_goals first
  | (refine (ih (i + 1) (by omega) ?_ _ ?_).trans ?_; (focus (first | omega | (simp; done) | (simp; omega))); (focus (simp [normE, hw, hw1]; done)); (focus (rfl)))
  | (apply end_leaf (ex := (Ext.exit 0)) 2 (some [1, 4]); (focus (simp [normE]; rfl)); (focus (simp)))
  | (apply end_leaf (ex := Ext.ret) 2 (some [1, 4]); (focus (simp [normE]; rfl)); (focus (exfalso; clear ih hs hw; omega)))
theorem held_Etss (k : Int) (l : List (List Et)) (hk : 0 ≤ k) (hl : l.length < 2000000) (hb : k + (cn_Etss l : Nat) < 1000000000000000000) : oc.call 83 [.lst false 0 (etss false (mk_Etss k l)), .int .i64 k] = some (.int .i64 (k + (cn_Etss l : Nat)), []) := by
  refine fun_s rfl cd83 rfl rfl rfl (by simp; rfl) (by simp; rfl) ?_
  refine wa_ (wc_region (w_ (a_ (h := wo_nil (e_ (h := aft_normal (wa_ (wa_ (wc_region (w_ (a_ (h := wo_nil (e_ (h := aft_normal (wc_block (?_))))))))))))))))
  refine wc_loop (l_held_Etss k l hk hl hb 0 (by omega) _ (by simp [normE, cn_Etss])) ?_
  first | refine blk_ret ?_ | refine blk_exit ?_
  all_goals first
  | refine aft_ret ?_
  | (refine aft_normal ?_
     refine wa_ (wc_region (w_ (m_ (h := w_ (a_ (h := wo_nil (e_ (h := aft_normal (wc_ret (?_))))))))))
     )
  all_goals (refine fin_ (hr := (res_tmp rfl res_nil)) (h := ?_); (focus (first | (simp_all; done) | (simp_all <;> omega) | (simp_all <;> split <;> simp_all <;> omega))))
def wEs (l : List (List Et)) : Prop := l.length < 2000000 ∧ ∀ x ∈ l, w_Ets x < 2000000
theorem l_eq_Etss (l m : List (List Et)) (h : wEs l) (h2 : wEs m) (hlm : l.length = m.length) : ∀ i : Nat, (i ≤ l.length) → ∀ s, normE 2 (some [0, 1, 5]) s = ⟨[(0, .lst false 0 (etss false l)), (1, .lst false 0 (etss false m)), (5, .int .i64 i)], [], 2⟩ →
    oc.loop 31 4 s = some (if l.drop i = m.drop i then (.exit 0, ⟨[], [], 2⟩) else (.ret, ⟨[(4, .bool false)], [], 2⟩)) := by
  refine loop_ind (σ := Nat) (fun i => l.length - i) _ (fun i => ⟨[(0, .lst false 0 (etss false l)), (1, .lst false 0 (etss false m)), (5, .int .i64 i)], [], 2⟩) _ ?_
  intro i hi ih s hs
  refine loop_s cd31 rfl rfl hs ?_
  obtain ⟨hl1, hl2⟩ := h
  obtain ⟨hm1, hm2⟩ := h2
  refine wa_ (wa_ (wc_region (w_ (m_ (h := w_ (m_ (h := w_ (le (h := w_ (b_ (h := wo_nil (e_ (h := aft_normal (?_))))))))))))))
  refine c_ (h1 := ?_) (h2 := ?_)
  rotate_right 1
  focus
   intro c1
   simp at c1; have : i = l.length := (by omega); subst this
   refine wc_exit (?_)
  rotate_right 1
  focus
   intro c1
   simp at c1; have hw := wrap_succ (i := i) (by omega); obtain ⟨x, hx, d1, g1⟩ := etss_cut (t := false) c1; obtain ⟨y, hy, d2, g2⟩ := etss_cut (t := false) (l := m) (i := i) (by omega); have m1 := hl2 x (List.mem_of_getElem? hx); have m2 := hm2 y (List.mem_of_getElem? hy)
   refine wc_skip (?_)
  all_goals first
  | refine aft_exit ?_
  | (refine aft_normal ?_
     refine wa_ (wc_block (wa_ (wc_draw (y_ (m_ (h := ax_ (h := y_ (m_ (h := ax_ (h := y_ (x_ (h := ax_ (h := y_ (l_ (h := ax_ (h := y_ (m_ (h := ax_ (h := y_ (m_ (h := ax_ (h := y_ (x_ (h := ax_ (h := y_ (l_ (h := ax_ (h := ?_))))))))))))))))))))))))))))
     refine y_ (ca (hc := eq_Ets x y m1 m2) (h := ax_ (h := y_ (u_ (h := ax_ (h := wo_nil (ed (h := aft_normal (?_)))))))))
     refine c_ (h1 := ?_) (h2 := ?_)
     rotate_right 1
     focus
      intro c2
      refine wc_skip (?_)
     rotate_right 1
     focus
      intro c2
      refine wa_ (wc_region (w_ (a_ (h := wo_nil (e_ (h := aft_normal (wc_ret (?_))))))))
     all_goals first | refine blk_normal ?_ | refine blk_ret ?_
     all_goals first
     | refine aft_ret ?_
     | (refine aft_normal ?_
        refine wc_region (w_ (m_ (h := w_ (b_ (h := w_ (a_ (h := wo_nil (e_ (h := ?_)))))))))
        )
     )
  all_goals first
  | (refine (ih (i + 1) (by omega) ?_ _ ?_).trans ?_; (focus (first | omega | (simp; done) | (simp; omega))); (focus (simp [normE, hw]; done)); (focus (simp at c2; rw [d1, d2]; simp [c2])))
  | (apply end_leaf (ex := Ext.ret) 2 (some [4]); (focus (simp [normE]; rfl)); (focus (simp at c2; rw [d1, d2]; simp [c2])))
  | (apply end_leaf (ex := (Ext.exit 0)) 2 (some [4]); (focus (simp [normE]; rfl)); (focus (rw [if_pos (by simp [hlm])])))
theorem eq_Etss (l m : List (List Et)) (h : wEs l) (h2 : wEs m) : oc.call 31 [.lst false 0 (etss false l), .lst false 0 (etss false m)] = some (.bool (decide (l = m)), []) := by
  refine fun_s rfl cd31 rfl rfl rfl (by simp; rfl) (by simp; rfl) ?_
  have hl1 := h.1
  have hm1 := h2.1
  refine wa_ (wc_region (w_ (a_ (h := wo_nil (e_ (h := aft_normal (wa_ (wa_ (wc_region (w_ (m_ (h := w_ (le (h := w_ (m_ (h := w_ (le (h := ?_))))))))))))))))))
  refine w_ (bE (h := wo_nil (e_ (h := aft_normal (?_)))))
  refine c_ (h1 := ?_) (h2 := ?_)
  rotate_right 1
  focus
   intro c1
   simp at c1
   refine wc_skip (?_)
  rotate_right 1
  focus
   intro c1
   simp at c1; have hne : l ≠ m := (by rintro rfl; exact c1 rfl)
   refine wa_ (wc_region (w_ (a_ (h := wo_nil (e_ (h := aft_normal (wc_ret (?_))))))))
  all_goals first
  | refine aft_ret ?_
  | (refine aft_normal ?_
     refine wa_ (wa_ (wc_region (w_ (a_ (h := wo_nil (e_ (h := aft_normal (wc_block (?_)))))))))
     refine wc_loopI (l_eq_Etss l m h h2 (by omega) 0 (by omega) _ (by simp [normE])) ?_ ?_
     rotate_right 1
     focus
      intro c2
      skip
     rotate_right 1
     focus
      intro c2
      skip
     all_goals first | refine blk_ret ?_ | refine blk_exit ?_
     all_goals first
     | refine aft_ret ?_
     | (refine aft_normal ?_
        refine wa_ (wc_region (w_ (a_ (h := wo_nil (e_ (h := aft_normal (wc_ret (?_))))))))
        )
     )
  all_goals (refine fin_ (hr := (res_tmp rfl res_nil)) (h := ?_); (focus (first | (simp_all; done) | (simp_all <;> omega) | (simp_all <;> split <;> simp_all <;> omega))))
end Go.Proofs.Ytgkbmiaimjpbfaa.Ev
namespace Go.Proofs.Ytgkbmiaimjpbfaa.Ev
open Go
set_option maxRecDepth 100000
set_option linter.unusedSimpArgs false
set_option linter.unusedVariables false
set_option maxHeartbeats 2000000
theorem cellsAll_map {α : Type} {f : α → V} {k : Nat} (h : ∀ x, (f x).cells = k) : ∀ l : List α, V.cellsAll k (l.map f) = true
  | [] => rfl
  | x :: l => by simp only [List.map_cons, V.cellsAll, List.all_cons, h, decide_true, Bool.true_and]; exact cellsAll_map h l
@[simp] theorem cellsAll_ints (l : List Int) : V.cellsAll 1 (ints l) = true := cellsAll_map (f := .int .i64) (fun _ => rfl) l
@[simp] theorem cellsAll_ets (t : Bool) (l : List Et) : V.cellsAll 2 (ets t l) = true := cellsAll_map (f := Et.v t) (fun _ => rfl) l
@[simp] theorem cellsAll_cts (l : List Ct) : V.cellsAll 3 (cts l) = true := cellsAll_map (f := Ct.v) (fun _ => rfl) l
@[simp] theorem cellsAll_frs (t : Bool) (l : List Fr) : V.cellsAll 6 (frs t l) = true := cellsAll_map (f := Fr.v t) (fun _ => rfl) l
@[simp] theorem cellsAll_nds (t : Bool) (s : Nat) (l : List Nd) : V.cellsAll 7 (nds t s l) = true := cellsAll_map (f := fun d : Nd => d.v t s) (fun _ => rfl) l
theorem c1_I (l : List Int) (hl : l.length < 2000000) (h : l ≠ []) : runE oc cf 155 [.lst false 0 (ints l)] = some (.lst true 1 (ints l), []) := by
  refine run_s cd155 rfl rfl rfl (by first | (simp; rfl) | rfl) (by first | (simp; rfl) | rfl) ?_
  have hne : ints l ≠ [] := by simpa [ints] using h
  refine wa_ (wc_region (w_ (aN (h := wo_nil (e_ (h := aft_normal (wa_ (wa_ (wc_region (w_ (m_ (h := w_ (bN (h := wo_nil (e_ (h := aft_normal (?_)))))))))))))))))
  refine c_ (h1 := ?_) (h2 := ?_)
  rotate_right 1
  focus
   intro c1
   refine wc_skip (?_)
  rotate_right 1
  focus
   intro c1
   refine wa_ (wc_region (w_ (aN (h := wo_nil (e_ (h := aft_normal (wc_ret (?_))))))))
  all_goals first
  | refine aft_ret ?_
  | (refine aft_normal ?_
     refine wa_ (wc_region (w_ (bs (h := w_ (m_ (h := w_ (ap (h := w_ (a_ (h := wo_nil (e_ (h := aft_normal (wc_ret (?_))))))))))))))
     )
  all_goals (refine fin_ (hr := (res_tmp rfl res_nil)) (h := ?_); (focus (first | (simp_all; done) | (simp_all <;> omega) | (simp_all <;> split <;> simp_all <;> omega))))
theorem c2_I  : runE oc cf 155 [.emp true] = some (.lst true 1 [], []) := by
  refine run_s cd155 rfl rfl rfl (by first | (simp; rfl) | rfl) (by first | (simp; rfl) | rfl) ?_
  refine wa_ (wc_region (w_ (aN (h := wo_nil (e_ (h := aft_normal (wa_ (wa_ (wc_region (w_ (m_ (h := w_ (bN (h := wo_nil (e_ (h := aft_normal (?_)))))))))))))))))
  refine c_ (h1 := ?_) (h2 := ?_)
  rotate_right 1
  focus
   intro c1
   first
   | exact dn c1
   | (have d1 := c1; try simp at d1
      refine wc_skip (?_)
      )
  rotate_right 1
  focus
   intro c1
   first
   | exact dn c1
   | (have d1 := c1; try simp at d1
      refine wa_ (wc_region (w_ (aN (h := wo_nil (e_ (h := aft_normal (wc_ret (?_))))))))
      )
  all_goals first
  | refine aft_ret ?_
  | (refine aft_normal ?_
     refine wa_ (wc_region (w_ (bs (h := w_ (m_ (h := w_ (ap (h := w_ (a_ (h := wo_nil (e_ (h := aft_normal (wc_ret (?_))))))))))))))
     )
  all_goals (refine fin_ (hr := (res_tmp rfl res_nil)) (h := ?_); (focus (first | (simp_all; done) | (simp_all <;> omega) | (simp_all <;> split <;> simp_all <;> omega))))
theorem c3_I  : runE oc cf 155 [.emp false] = some (.lst true 1 [], []) := by
  refine run_s cd155 rfl rfl rfl (by first | (simp; rfl) | rfl) (by first | (simp; rfl) | rfl) ?_
  refine wa_ (wc_region (w_ (aN (h := wo_nil (e_ (h := aft_normal (wa_ (wa_ (wc_region (w_ (m_ (h := w_ (bN (h := wo_nil (e_ (h := aft_normal (?_)))))))))))))))))
  refine c_ (h1 := ?_) (h2 := ?_)
  rotate_right 1
  focus
   intro c1
   first
   | exact dn c1
   | (have d1 := c1; try simp at d1
      refine wc_skip (?_)
      )
  rotate_right 1
  focus
   intro c1
   first
   | exact dn c1
   | (have d1 := c1; try simp at d1
      refine wa_ (wc_region (w_ (aN (h := wo_nil (e_ (h := aft_normal (wc_ret (?_))))))))
      )
  all_goals first
  | refine aft_ret ?_
  | (refine aft_normal ?_
     refine wa_ (wc_region (w_ (bs (h := w_ (m_ (h := w_ (?_)))))))
     refine ap (hlen := by decide) (h := ?_)
     refine w_ (a_ (h := wo_nil (e_ (h := aft_normal (wc_ret (?_))))))
     )
  all_goals (refine fin_ (hr := (res_tmp rfl res_nil)) (h := ?_); (focus (first | (simp_all; done) | (simp_all <;> omega) | (simp_all <;> split <;> simp_all <;> omega))))
theorem e_cloneI (l : List Int) (hl : l.length < 2000000) : oc.call 155 [.lst false 0 (ints l)] = some (.lst true 1 (ints l), []) :=
  nil_s rfl (fun h => c1_I l hl (by rintro rfl; exact h rfl)) (fun h => by have : l = [] := (by simpa [ints] using h); subst this; exact c2_I) (fun h => by have : l = [] := (by simpa [ints] using h); subst this; exact c3_I)
end Go.Proofs.Ytgkbmiaimjpbfaa.Ev
namespace Go.Proofs.Ytgkbmiaimjpbfaa.Ev
open Go
set_option maxRecDepth 100000
set_option linter.unusedSimpArgs false
set_option linter.unusedVariables false
set_option maxHeartbeats 2000000
section
variable {call : Call} {id base : Nat} {e : List (Nat × V)} {o : List (Nat × Ob)} {n : Nat} {t : TypeId} {K : V → List (Nat × Ob) → Prop}
theorem apP {args : Array Operand} {ts : Array TypeId} {t1 t2 e1 e2 : TypeId} {y z : V} {ys ws bs : List V} {r1 : Option (List V × St)} {sz : Nat} {o1 : List (Nat × Ob)} {id' q j ver m m2 : Nat} {fs : List Nat} {ob : Ob} {x xu : V} (hx : opsV e args.toList = some [.plc q j fs ver m, y] := by exact rfl) (h1 : ts[0]? = some t1 := by exact rfl) (h2 : ts[1]? = some t2 := by exact rfl) (he1 : cf.elem t1 = some e1 := by exact tys_ok.elem _ _ rfl) (hz : cf.zero e1 = some z := by exact tys_ok.zero _ _ rfl) (he2 : cf.elem t2 = some e2 := by exact tys_ok.elem _ _ rfl)
    (hel : St.elems ⟨[], o, n⟩ base y = r1 := by (simp; rfl)) (hel2 : r1 = some (ys, ⟨[], o1, n⟩) := by rfl) (ho : geta o1 q = some ob := by exact rfl) (hv : ob.ver = ver := by rfl) (hg : ob.xs[j]? = some x := by first | assumption | exact set_at (by assumption)) (hgf : getF x fs = some (.lst true sz bs) := by exact rfl) (hl : bs.length = m := by first | rfl | simp) (hsu : setF x fs .und = some xu := by exact rfl)
    (hid : id = id' := by ((try simp); rfl)) (hsz : sz = z.cells := by rfl) (hc : V.cellsAll z.cells ys = true := by (simp [*]; try rfl)) (hw : bs ++ ys = ws := by ((try simp); rfl)) (hm : ws.length = m2 := by ((try simp); rfl)) (hlen : m2 < maxV := by (simp <;> omega))
    (h : K (.ref id' 0 m2) ((id', ⟨false, false, z.cells, ws, 0⟩) :: (q, ⟨ob.bx, ob.fx, ob.sz, ob.xs.set j xu, ver + 1⟩) :: o1)) : opK call cf id base e o n t (.call ⟨.builtin .append, args, ts⟩) K := by
  subst hl hv
  have hget : ob.get j fs = some (.lst true sz bs) := by simp only [Ob.get, hg, hgf]
  have hset : ob.set j fs .und = some { ob with xs := ob.xs.set j xu } := by simp only [Ob.set, hg, hsu, mp_some]
  have hat : St.at ⟨[], o1, n⟩ q j fs ob.ver bs.length = some (sz, bs, ob) := by simp only [St.at, ho, hget, if_true]
  have htk : St.take ⟨[], o1, n⟩ q j fs ob.ver bs.length = some (sz, bs, ⟨[], (q, ⟨ob.bx, ob.fx, ob.sz, ob.xs.set j xu, ob.ver + 1⟩) :: o1, n⟩) := by simp only [St.take, hat, hset, mp_some, puta]
  exact k_appendS hx h1 h2 he1 hz he2 hel hel2 htk rfl hid hsz hc hw hm hlen h
end
end Go.Proofs.Ytgkbmiaimjpbfaa.Ev
namespace Go.Proofs.Ytgkbmiaimjpbfaa.Ev
open Go
set_option maxRecDepth 100000
set_option linter.unusedSimpArgs false
set_option linter.unusedVariables false
set_option maxHeartbeats 2000000
def idxE (p : Et → Bool) (i : Nat) : List (Et) → Int
  | [] => -1
  | x :: r => if p x = true then i else idxE p (i + 1) r
theorem idxE_any {p : Et → Bool} : ∀ {l : List (Et)} {i : Nat}, decide (0 ≤ idxE p i l) = l.any p
  | [], i => by simp [idxE]
  | x :: r, i => by
    unfold idxE
    by_cases h : p x = true
    · simp [h]
    · simp only [if_neg h, List.any_cons, idxE_any (l := r) (i := i + 1)]; simp [h]
theorem l_ix_Long (l : List (Et)) (k : Int) (p : Et → Bool) (hl : l.length < 2000000) (hc : ∀ x ∈ l, oc.call 154 [x.v false, .vptr (.int .i64 k)] = some (.bool (p x), [])) : ∀ i : Nat, i ≤ l.length → ∀ s, normE 2 (some [0, 1, 7, 8]) s = ⟨[(0, .lst false 0 (ets false l)), (1, .clo 154 [.vptr (.int .i64 k)]), (7, .int .i64 l.length), (8, .int .i64 i)], [], 2⟩ →
    oc.loop 221 2 s = some (if 0 ≤ idxE p i (l.drop i) then (.ret, ⟨[(4, .int .i64 (idxE p i (l.drop i)))], [], 2⟩) else (.exit 0, ⟨[], [], 2⟩)) := by
  refine loop_ind (fun i => l.length - i) _ (fun i => ⟨[(0, .lst false 0 (ets false l)), (1, .clo 154 [.vptr (.int .i64 k)]), (7, .int .i64 l.length), (8, .int .i64 i)], [], 2⟩) _ ?_
  intro i hi ih s hs
  refine loop_s cd221 rfl rfl hs ?_
  refine wa_ (wc_region (w_ (b_ (h := wo_nil (e_ (h := aft_normal (wa_ (?_))))))))
  refine c_ (h1 := ?_) (h2 := ?_)
  rotate_right 1
  focus
   intro c1
   first
   | exact dn c1
   | (have d1 := c1; try simp at d1
      refine wc_exit (?_)
      )
  rotate_right 1
  focus
   intro c1
   first
   | exact dn c1
   | (have d1 := c1; try simp at d1
      have hw := wrap_succ (i := i) (by omega); obtain ⟨x, hx, e1, g1⟩ := ets_cut (t := false) (l := l) (i := i) (by omega); have hq := hc x (List.mem_of_getElem? hx)
      refine wc_skip (?_)
      )
  all_goals first
  | refine aft_exit ?_
  | (refine aft_normal ?_
     refine wa_ (wc_block (wa_ (wc_region (w_ (m_ (h := w_ (a_ (h := wo_nil (e_ (h := aft_normal (wa_ (wc_region (w_ (m_ (h := w_ (m_ (h := ?_)))))))))))))))))
     refine w_ (m_ (h := w_ (x_ (h := w_ (l_ (h := w_ (?_)))))))
     refine k_callS rfl rfl (by rw [cf_in]; rfl) rfl (by rw [cf_md]; rfl) (by simp [cf_md, mdT]; rfl) (by first | rfl | simp [*]) hq rfl (by simp; rfl) (by simp [cf_md, mdT]) (by simp; rfl) (by simp; rfl) ?_
     refine wo_nil (e_ (h := aft_normal (?_)))
     refine c_ (h1 := ?_) (h2 := ?_)
     rotate_right 1
     focus
      intro c2
      first
      | exact dn c2
      | (have d2 := c2; try simp at d2
         refine wc_skip (?_)
         )
     rotate_right 1
     focus
      intro c2
      first
      | exact dn c2
      | (have d2 := c2; try simp at d2
         refine wa_ (wc_region (w_ (m_ (h := w_ (a_ (h := wo_nil (e_ (h := aft_normal (wc_ret (?_))))))))))
         )
     all_goals first | refine blk_normal ?_ | refine blk_ret ?_
     all_goals first
     | refine aft_ret ?_
     | (refine aft_normal ?_
        refine wc_region (w_ (b_ (h := w_ (m_ (h := wo_nil (e_ (h := ?_)))))))
        )
     )
  all_goals first
  | (refine (ih (i + 1) (by omega) ?_ _ ?_).trans ?_; (focus (first | omega | (simp; done) | (simp; omega))); (focus (simp [normE, hw]; done)); (focus (rw [e1]; simp only [idxE, if_neg (show ¬ p x = true by simp [d2])])))
  | (apply end_leaf (ex := Ext.ret) 2 (some [4]); (focus (simp [normE]; rfl)); (focus (rw [e1]; simp [idxE, d2])))
  | (apply end_leaf (ex := (Ext.exit 0)) 2 (some [4]); (focus (simp [normE]; rfl)); (focus (rw [List.drop_eq_nil_of_le (by omega)]; simp [idxE])))
theorem e_ix_Long (l : List (Et)) (k : Int) (p : Et → Bool) (hl : l.length < 2000000) (hc : ∀ x ∈ l, oc.call 154 [x.v false, .vptr (.int .i64 k)] = some (.bool (p x), [])) : oc.call 221 [.lst false 0 (ets false l), .clo 154 [.vptr (.int .i64 k)]] = some (.int .i64 (if 0 ≤ idxE p 0 l then idxE p 0 l else -1), []) := by
  refine fun_s rfl cd221 rfl rfl rfl (by simp; rfl) (by simp; rfl) ?_
  refine wa_ (wc_region (w_ (a_ (h := wo_nil (e_ (h := aft_normal (wa_ (wa_ (wc_region (w_ (m_ (h := w_ (le (h := w_ (m_ (h := wo_nil (e_ (h := ?_))))))))))))))))))
  refine aft_normal (wc_block (?_))
  refine wc_loopI (l_ix_Long l k p hl hc 0 (by omega) _ (by simp [normE])) ?_ ?_
  rotate_right 1
  focus
   intro c1
   skip
  rotate_right 1
  focus
   intro c1
   skip
  all_goals first | refine blk_ret ?_ | refine blk_exit ?_
  all_goals first
  | refine aft_ret ?_
  | (refine aft_normal ?_
     refine wa_ (wc_region (w_ (a_ (h := wo_nil (e_ (h := aft_normal (wc_ret (?_))))))))
     )
  all_goals (refine fin_ (hr := (res_tmp rfl res_nil)) (h := ?_); (focus (clear hc; first | (simp_all; done) | (simp_all <;> omega))))
theorem e_any_Long (l : List (Et)) (k : Int) (p : Et → Bool) (hl : l.length < 2000000) (hc : ∀ x ∈ l, oc.call 154 [x.v false, .vptr (.int .i64 k)] = some (.bool (p x), [])) : oc.call 153 [.lst false 0 (ets false l), .clo 154 [.vptr (.int .i64 k)]] = some (.bool (l.any p), []) := by
  refine fun_s rfl cd153 rfl rfl rfl (by simp; rfl) (by simp; rfl) ?_
  refine wa_ (wc_region (w_ (a_ (h := wo_nil (e_ (h := aft_normal (wa_ (wc_region (w_ (m_ (h := w_ (m_ (h := w_ (ca (hc := e_ix_Long l k p hl hc) (h := w_ (b_ (h := w_ (a_ (h := ?_)))))))))))))))))))
  refine wo_nil (e_ (h := aft_normal (wc_ret (?_))))
  all_goals (refine fin_ (hr := (res_tmp rfl res_nil)) (h := ?_); (focus (clear hc; rw [← idxE_any (i := 0)]; simp; grind)))
def longE (z : List Et) (k : Int) : Bool := z.any fun e => decide ((e.row.length : Int) < k)
theorem longE_cons {c : Et} {r : List Et} {k : Int} : longE (c :: r) k = (decide ((c.row.length : Int) < k) || longE r k) := by simp [longE]
theorem e_long1 (e : Et) (k : Int) (he : e.row.length < 2000000) : oc.call 154 [e.v false, .vptr (.int .i64 k)] = some (.bool (decide ((e.row.length : Int) < k)), []) := by
  refine fun_s rfl cd154 rfl rfl rfl (by simp; rfl) (by simp; rfl) ?_
  refine wa_ (wc_region (w_ (bx (h := w_ (a_ (h := wo_nil (e_ (h := aft_normal (wa_ (wc_draw (y_ (f_ (h := ax_ (h := y_ (l_ (h := ax_ (h := y_ (ca (hc := e_size 0 (ints e.row) (by simp; omega)) (h := ax_ (h := y_ (l_ (h := ax_ (h := ?_)))))))))))))))))))))))
  refine y_ (b_ (h := ax_ (h := y_ (a_ (h := ax_ (h := wo_nil (ed (h := aft_normal (wc_ret (?_))))))))))
  all_goals (refine fin_ (hr := (res_tmp rfl res_nil)) (h := ?_); (focus (first | (simp_all; done) | (simp_all <;> omega) | (simp_all <;> split <;> simp_all <;> omega))))
theorem row_in {z : List Et} (hz : w_Ets z < 2000000) {e : Et} (h : e ∈ z) : e.row.length < 2000000 := by
  have := w_Ets_mem h; unfold w_Et at this; omega
theorem e_long (z : List Et) (k : Int) (hz : w_Ets z < 2000000) : oc.call 77 [.lst false 0 (ets false z), .int .i64 k] = some (.bool (!longE z k), []) := by
  refine fun_s rfl cd77 rfl rfl rfl (by simp; rfl) (by simp; rfl) ?_
  refine wa_ (wc_region (w_ (bx (h := w_ (a_ (h := wo_nil (e_ (h := aft_normal (wa_ (wc_region (w_ (m_ (h := w_ (mf (h := w_ (ca (hc := e_any_Long z k (fun e => decide ((e.row.length : Int) < k)) (by have := w_Ets_len (l := z); omega) (fun e he => e_long1 e k (row_in hz he))) (h := w_ (u_ (h := ?_)))))))))))))))))))
  refine w_ (a_ (h := wo_nil (e_ (h := aft_normal (wc_ret (?_))))))
  all_goals (refine fin_ (hr := (res_tmp rfl res_nil)) (h := ?_); (focus (simp [longE])))
theorem l_short (z : List Et) (k : Int) (hz : w_Ets z < 2000000) : ∀ i : Nat, (i ≤ z.length) → ∀ s, normE 2 (some [0, 1, 5]) s = ⟨[(0, .lst false 0 (ets false z)), (1, .int .i64 k), (5, .int .i64 i)], [], 2⟩ →
    oc.loop 71 2 s = some (if longE (z.drop i) k = true then (.ret, ⟨[(4, .bool true)], [], 2⟩) else (.exit 0, ⟨[], [], 2⟩)) := by
  refine loop_ind (σ := Nat) (fun i => z.length - i) _ (fun i => ⟨[(0, .lst false 0 (ets false z)), (1, .int .i64 k), (5, .int .i64 i)], [], 2⟩) _ ?_
  intro i hi ih s hs
  refine loop_s cd71 rfl rfl hs ?_
  have hzl := w_Ets_len (l := z)
  refine wa_ (wa_ (wc_region (w_ (m_ (h := w_ (m_ (h := w_ (le (h := w_ (b_ (h := wo_nil (e_ (h := aft_normal (?_))))))))))))))
  refine c_ (h1 := ?_) (h2 := ?_)
  rotate_right 1
  focus
   intro c1
   first
   | exact dn c1
   | (have d1 := c1; try simp at d1
      refine wc_exit (?_)
      )
  rotate_right 1
  focus
   intro c1
   first
   | exact dn c1
   | (have d1 := c1; try simp at d1
      have hw := wrap_succ (i := i) (by omega); obtain ⟨c, hx, e1, g1⟩ := ets_cut (t := false) (l := z) (i := i) (by omega)
      refine wc_skip (?_)
      )
  all_goals first
  | refine aft_exit ?_
  | (refine aft_normal ?_
     refine wa_ (wc_block (wa_ (wc_region (w_ (m_ (h := w_ (m_ (h := w_ (x_ (h := w_ (f_ (h := w_ (l_ (h := w_ (le (h := w_ (m_ (h := w_ (b_ (h := ?_))))))))))))))))))))
     refine wo_nil (e_ (h := aft_normal (?_)))
     refine c_ (h1 := ?_) (h2 := ?_)
     rotate_right 1
     focus
      intro c2
      first
      | exact dn c2
      | (have d2 := c2; try simp at d2
         refine wc_skip (?_)
         )
     rotate_right 1
     focus
      intro c2
      first
      | exact dn c2
      | (have d2 := c2; try simp at d2
         refine wa_ (wc_region (w_ (a_ (h := wo_nil (e_ (h := aft_normal (wc_ret (?_))))))))
         )
     all_goals first | refine blk_normal ?_ | refine blk_ret ?_
     all_goals first
     | refine aft_ret ?_
     | (refine aft_normal ?_
        refine wc_region (w_ (m_ (h := w_ (b_ (h := w_ (a_ (h := wo_nil (e_ (h := ?_)))))))))
        )
     )
  all_goals first
  | (refine (ih (i + 1) (by omega) ?_ _ ?_).trans ?_; (focus (first | omega | (simp; done) | (simp; omega))); (focus (simp [normE, hw]; done)); (focus (rw [e1, longE_cons, decide_eq_false (by omega)]; simp)))
  | (apply end_leaf (ex := Ext.ret) 2 (some [4]); (focus (simp [normE]; rfl)); (focus (rw [e1, longE_cons, decide_eq_true (by omega)]; simp)))
  | (apply end_leaf (ex := (Ext.exit 0)) 2 (some [4]); (focus (simp [normE]; rfl)); (focus (rw [List.drop_eq_nil_of_le (by omega)]; simp [longE])))
theorem e_short (z : List Et) (k : Int) (hz : w_Ets z < 2000000) : oc.call 71 [.lst false 0 (ets false z), .int .i64 k] = some (.bool (longE z k), []) := by
  refine fun_s rfl cd71 rfl rfl rfl (by simp; rfl) (by simp; rfl) ?_
  refine wa_ (wc_region (w_ (a_ (h := wo_nil (e_ (h := aft_normal (wa_ (wa_ (wc_region (w_ (a_ (h := wo_nil (e_ (h := aft_normal (wc_block (?_))))))))))))))))
  refine wc_loopI (l_short z k hz 0 (by omega) _ (by simp [normE])) ?_ ?_
  rotate_right 1
  focus
   intro c1
   skip
  rotate_right 1
  focus
   intro c1
   skip
  all_goals first | refine blk_ret ?_ | refine blk_exit ?_
  all_goals first
  | refine aft_ret ?_
  | (refine aft_normal ?_
     refine wa_ (wc_region (w_ (a_ (h := wo_nil (e_ (h := aft_normal (wc_ret (?_))))))))
     )
  all_goals (refine fin_ (hr := (res_tmp rfl res_nil)) (h := ?_); (focus (simp_all)))
def partsN (f : List Int → Int) (m : Nat) (z : List Et) : List (List Et) := (List.range m).map fun (k : Nat) => z.filter fun e => decide (f e.row = (k : Int))
@[simp] theorem partsN_len {f : List Int → Int} {m : Nat} {z : List Et} : (partsN f m z).length = m := by simp [partsN]
@[simp] theorem partsN_take {f : List Int → Int} {m : Nat} {z : List Et} : (partsN f m z).take m = partsN f m z := List.take_of_length_le (by simp)
theorem partsN_nil {f : List Int → Int} {m : Nat} : partsN f m [] = List.replicate m [] := by
  apply List.ext_getElem <;> simp [partsN]
theorem partsN_snoc {f : List Int → Int} {m : Nat} {z : List Et} {e : Et} {i : Nat} (he : z[i]? = some e) (h0 : 0 ≤ f e.row) (h1 : f e.row < m) : ∃ q, (partsN f m (z.take i))[(f e.row).toNat]? = some q ∧ q.length ≤ z.length ∧ (partsN f m (z.take i)).set (f e.row).toNat (q ++ [e]) = partsN f m (z.take (i + 1)) := by
  have hk : (f e.row).toNat < m := by omega
  refine ⟨(z.take i).filter (fun x => decide (f x.row = ((f e.row).toNat : Int))), ?_, ?_, ?_⟩
  · simp [partsN, hk]
  · exact Nat.le_trans (List.length_filter_le _ _) (by simp; omega)
  · have ht : z.take (i + 1) = z.take i ++ [e] := by
      have hlt := (List.getElem?_eq_some_iff.1 he).1
      rw [List.take_add_one, he]; rfl
    rw [ht]
    apply List.ext_getElem?
    intro n
    by_cases hn : n = (f e.row).toNat
    · subst hn
      have hto : ((f e.row).toNat : Int) = f e.row := Int.toNat_of_nonneg h0
      simp [partsN, hk, List.filter_append, hto]
    · rw [List.getElem?_set_ne (Ne.symm hn)]
      by_cases hm : n < m
      · simp [partsN, hm, List.filter_append]; omega
      · simp [partsN, hm]
theorem partsN_mem {f : List Int → Int} {m : Nat} {z : List Et} {q : List Et} (h : q ∈ partsN f m z) : q.Sublist z := by
  simp only [partsN, List.mem_map] at h
  obtain ⟨k, _, rfl⟩ := h
  exact List.filter_sublist
theorem longE_row {z : List Et} {k : Int} (h : longE z k = false) {e : Et} (he : e ∈ z) : k ≤ e.row.length := by
  simp [longE] at h; exact h e he
@[simp] abbrev srv (r : Int × List (List Et)) : V := .agg [.int .i64 r.1, .lst true 1 (etss true r.2)]
@[simp] abbrev srF (r : Int × List (List Et)) : V := .agg [.int .i64 r.1, .lst false 0 (etss false r.2)]
end Go.Proofs.Ytgkbmiaimjpbfaa.Ev
namespace Go.Proofs.Ytgkbmiaimjpbfaa.Ev
open Go
set_option maxRecDepth 100000
set_option linter.unusedSimpArgs false
set_option linter.unusedVariables false
set_option maxHeartbeats 2000000
theorem e_l2Row (r : List Int) (h : r.length < 2000000) : oc.call 73 [.lst false 0 (ints r)] = some (.lst true 1 (ints r), []) := by
  refine fun_s rfl cd73 rfl rfl rfl (by simp; rfl) (by simp; rfl) ?_
  refine wa_ (wc_region (w_ (aN (h := wo_nil (e_ (h := aft_normal (wa_ (wc_region (w_ (bs (h := w_ (m_ (h := w_ (ap (h := w_ (a_ (h := wo_nil (e_ (h := ?_)))))))))))))))))))
  refine aft_normal (wc_ret (?_))
  all_goals (refine fin_ (hr := (res_tmp rfl res_nil)) (h := ?_); (focus (first | (simp_all; done) | (simp_all <;> omega) | (simp_all <;> split <;> simp_all <;> omega))))
theorem wS_sub {α : Type} {f : α → Nat} {l m : List α} (h : l.Sublist m) : wS f l ≤ wS f m := by
  induction h with
  | slnil => simp
  | cons x _ ih => simp only [wS_cons]; omega
  | cons_cons x _ ih => simp only [wS_cons]; omega
theorem w_Ets_sub {l m : List Et} (h : l.Sublist m) : w_Ets l ≤ w_Ets m := by
  have h1 := h.length_le; have h2 := wS_sub (f := w_Et) h; unfold w_Ets; omega
theorem cn_Ets_eq {l : List Et} : cn_Ets l = w_Ets l := by
  unfold cn_Ets w_Ets
  induction l with
  | nil => rfl
  | cons x r ih => simp only [wS_cons, List.length_cons, ih, cn_Et, w_Et]; omega
theorem wS_leS {α : Type} {f : α → Nat} {c : Nat} {l : List α} (h : ∀ x ∈ l, f x ≤ c) : wS f l ≤ l.length * c := by
  induction l with
  | nil => simp
  | cons x r ih =>
    have h1 := h x (List.mem_cons_self ..)
    have h2 := ih (fun y hy => h y (List.mem_cons_of_mem _ hy))
    simp only [wS_cons, List.length_cons, Nat.succ_mul]
    omega
def outOf (z : List Et) (l : List (List Et)) : Prop := l.length ≤ 3 ∧ ∀ q ∈ l, w_Ets q ≤ w_Ets z
theorem outOf_wEs {z : List Et} {l : List (List Et)} (hz : w_Ets z < 2000000) (h : outOf z l) : wEs l := ⟨by have := h.1; omega, fun q hq => by have := h.2 q hq; omega⟩
theorem outOf_cn {z : List Et} {l : List (List Et)} (hz : w_Ets z < 2000000) (h : outOf z l) : cn_Etss l ≤ 6000000 := by
  have h1 : cn_Etss l ≤ l.length * 2000000 := wS_leS (f := cn_Ets) (fun x hx => by have := h.2 x hx; rw [cn_Ets_eq]; omega)
  have h2 : l.length * 2000000 ≤ 3 * 2000000 := Nat.mul_le_mul_right _ h.1
  omega
theorem partsN_out {f : List Int → Int} {m : Nat} {z : List Et} (hm : m ≤ 3) : outOf z (partsN f m z) := ⟨by simpa using hm, fun q hq => w_Ets_sub (partsN_mem hq)⟩
theorem e_eqSr (r s : Int × List (List Et)) (h1 : wEs r.2) (h2 : wEs s.2) : oc.call 16 [srF r, srF s] = some (.bool (decide (r = s)), []) := by
  refine fun_s rfl cd16 rfl rfl rfl (by simp; rfl) (by simp; rfl) ?_
  refine wa_ (wc_region (w_ (bx (h := w_ (bx (h := w_ (a_ (h := wo_nil (e_ (h := aft_normal (wa_ (wa_ (wc_region (w_ (f_ (h := w_ (l_ (h := ?_))))))))))))))))))
  refine w_ (f_ (h := w_ (l_ (h := w_ (bE (h := wo_nil (e_ (h := aft_normal (?_)))))))))
  refine c_ (h1 := ?_) (h2 := ?_)
  rotate_right 1
  focus
   intro c1
   first
   | exact dn c1
   | (have d1 := c1; try simp at d1
      refine wc_skip (?_)
      )
  rotate_right 1
  focus
   intro c1
   first
   | exact dn c1
   | (have d1 := c1; try simp at d1
      refine wa_ (wc_region (w_ (a_ (h := wo_nil (e_ (h := aft_normal (wc_ret (?_))))))))
      )
  all_goals first
  | refine aft_ret ?_
  | (refine aft_normal ?_
     refine wa_ (wa_ (wc_region (w_ (f_ (h := w_ (l_ (h := w_ (f_ (h := w_ (l_ (h := w_ (ca (hc := eq_Etss r.2 s.2 h1 h2) (h := w_ (u_ (h := wo_nil (e_ (h := aft_normal (?_))))))))))))))))))
     refine c_ (h1 := ?_) (h2 := ?_)
     rotate_right 1
     focus
      intro c2
      first
      | exact dn c2
      | (have d2 := c2; try simp at d2
         refine wc_skip (?_)
         )
     rotate_right 1
     focus
      intro c2
      first
      | exact dn c2
      | (have d2 := c2; try simp at d2
         refine wa_ (wc_region (w_ (a_ (h := wo_nil (e_ (h := aft_normal (wc_ret (?_))))))))
         )
     all_goals first
     | refine aft_ret ?_
     | (refine aft_normal ?_
        refine wa_ (wc_region (w_ (a_ (h := wo_nil (e_ (h := aft_normal (wc_ret (?_))))))))
        )
     )
  all_goals (refine fin_ (hr := (res_tmp rfl res_nil)) (h := ?_); (focus (simp [Prod.ext_iff] at *; simp_all)))
theorem e_heldSr (c k : Int) (l : List (List Et)) (hk : 0 ≤ k) (hl : l.length < 2000000) (hb : k + (cn_Etss l : Nat) < 1000000000000000000) : oc.call 20 [srF (c, mk_Etss k l), .int .i64 k] = some (.int .i64 (k + (cn_Etss l : Nat)), []) := by
  refine fun_s rfl cd20 rfl rfl rfl (by simp; rfl) (by simp; rfl) ?_
  refine wa_ (wc_region (w_ (bx (h := w_ (a_ (h := wo_nil (e_ (h := aft_normal (wa_ (wc_region (w_ (f_ (h := w_ (l_ (h := w_ (m_ (h := w_ (ca (hc := held_Etss k l hk hl hb) (h := ?_)))))))))))))))))))
  refine w_ (a_ (h := wo_nil (e_ (h := aft_normal (wa_ (wa_ (wc_region (w_ (m_ (h := w_ (b_ (h := wo_nil (e_ (h := aft_normal (?_)))))))))))))))
  refine c_ (h1 := ?_) (h2 := ?_)
  rotate_right 1
  focus
   intro c1
   first
   | exact dn c1
   | (have d1 := c1; try simp at d1
      refine wc_skip (?_)
      )
  rotate_right 1
  focus
   intro c1
   first
   | exact dn c1
   | (have d1 := c1; try simp at d1
      refine wa_ (wc_region (w_ (a_ (h := wo_nil (e_ (h := aft_normal (wc_ret (?_))))))))
      )
  all_goals first
  | refine aft_ret ?_
  | (refine aft_normal ?_
     refine wa_ (wc_region (w_ (m_ (h := w_ (a_ (h := wo_nil (e_ (h := aft_normal (wc_ret (?_))))))))))
     )
  all_goals (refine fin_ (hr := (res_tmp rfl res_nil)) (h := ?_); (focus (first | (simp at *; done) | (simp at *; omega))))
end Go.Proofs.Ytgkbmiaimjpbfaa.Ev
namespace Go.Proofs.Ytgkbmiaimjpbfaa.Ev
open Go
set_option maxRecDepth 100000
set_option linter.unusedSimpArgs false
set_option linter.unusedVariables false
set_option maxHeartbeats 2000000
def rtf (pl : List Nd) (a m sf : Int) (r : List Int) : Int := dstN pl a m sf r
theorem e_route1 (pl : List Nd) (a m sf : Int) (r : List Int) (hp : pl.length < 2000000) (hk : okN pl) (hc : routeC pl a m sf = 0) (hr : r.length < 2000000) (hl : keyN pl a ≤ r.length) : oc.call 120 [.lst false 0 (ints r), .vptr (.lst false 0 (nds false 0 pl)), .vptr (.lst false 0 (ints (widN pl))), .vptr (.int .i64 a), .vptr (.int .i64 m), .vptr (.int .i64 sf)] = some (.int .i64 (dstN pl a m sf r), []) := by
  refine fun_s rfl cd120 rfl rfl rfl (by simp; rfl) (by simp; rfl) ?_
  refine wa_ (wc_region (w_ (a_ (h := wo_nil (e_ (h := aft_normal (wa_ (wc_region (w_ (l_ (h := w_ (l_ (h := w_ (l_ (h := w_ (l_ (h := w_ (l_ (h := ?_)))))))))))))))))))
  refine w_ (m_ (h := w_ (ca (hc := e_goI pl a m sf r hp hk hc hr hl) (h := w_ (a_ (h := wo_nil (e_ (h := aft_normal (wc_ret (?_))))))))))
  all_goals (refine fin_ (hr := (res_tmp rfl res_nil)) (h := ?_); (focus (first | (simp_all; done) | (simp_all <;> omega) | (simp_all <;> split <;> simp_all <;> omega))))
theorem l_partR (pl : List Nd) (a sf : Int) (z : List Et) (m : Nat) (hp : pl.length < 2000000) (hk : okN pl) (hc : routeC pl a m sf = 0) (hz : w_Ets z < 2000000) (hm : 0 < m) (hm2 : m < 2000000) (h1 : longE z (keyN pl a) = false) : ∀ i : Nat, (i ≤ z.length) → ∀ s, normE 3 (some [2, 7, 13, 14, 15]) s = ⟨[(2, .clo 120 [.vptr (.lst false 0 (nds false 0 pl)), .vptr (.lst false 0 (ints (widN pl))), .vptr (.int .i64 a), .vptr (.int .i64 m), .vptr (.int .i64 sf)]), (7, .ref 3 0 m), (13, .lst false 0 (ets false z)), (14, .int .i64 z.length), (15, .int .i64 i)], [(3, ⟨false, false, 1, etss true (partsN (rtf pl a m sf) m (z.take i)), 0⟩)], 4⟩ →
    oc.loop 78 3 s = some (.exit 0, ⟨[(7, .ref 3 0 m)], [(3, ⟨false, false, 1, etss true (partsN (rtf pl a m sf) m z), 0⟩)], 4⟩) := by
  refine loop_ind (σ := Nat) (fun i => z.length - i) _ (fun i => ⟨[(2, .clo 120 [.vptr (.lst false 0 (nds false 0 pl)), .vptr (.lst false 0 (ints (widN pl))), .vptr (.int .i64 a), .vptr (.int .i64 m), .vptr (.int .i64 sf)]), (7, .ref 3 0 m), (13, .lst false 0 (ets false z)), (14, .int .i64 z.length), (15, .int .i64 i)], [(3, ⟨false, false, 1, etss true (partsN (rtf pl a m sf) m (z.take i)), 0⟩)], 4⟩) _ ?_
  intro i hi ih s hs
  refine loop_s cd78 rfl rfl hs ?_
  have hzl := w_Ets_len (l := z)
  refine wa_ (wc_region (w_ (b_ (h := wo_nil (e_ (h := aft_normal (wa_ (?_))))))))
  refine c_ (h1 := ?_) (h2 := ?_)
  rotate_right 1
  focus
   intro c1
   first
   | exact dn c1
   | (have d1 := c1; try simp at d1
      refine wc_exit (?_)
      )
  rotate_right 1
  focus
   intro c1
   first
   | exact dn c1
   | (have d1 := c1; try simp at d1
      have hw := wrap_succ (i := i) (by omega); obtain ⟨c, hx, e1, g1⟩ := ets_cut (t := false) (l := z) (i := i) (by omega); have hcm := List.mem_of_getElem? hx; have hcr := row_in hz hcm; have hlong := longE_row h1 hcm; have hsh := dstN_in (r := c.row) hc; obtain ⟨q, hq, hql, hqs⟩ := partsN_snoc (f := rtf pl a m sf) (m := m) hx hsh.1 hsh.2; have g2 : (etss true (partsN (rtf pl a m sf) m (z.take i)))[(dstN pl a m sf c.row).toNat]? = some (.lst true 2 (ets true q)) := etss_get (t := true) hq; change (partsN (rtf pl a m sf) m (z.take i)).set (dstN pl a m sf c.row).toNat (q ++ [c]) = _ at hqs; have hqt : List.take (q.length + 1) (q ++ [({ row := c.row, w := c.w } : Et)]) = q ++ [c] := List.take_of_length_le (by simp)
      refine wc_skip (?_)
      )
  all_goals first
  | refine aft_exit ?_
  | (refine aft_normal ?_
     refine wa_ (wc_block (wa_ (wc_region (w_ (x_ (h := w_ (l_ (h := w_ (al (h := w0 (s_ (h := wo_nil (e_ (h := aft_normal (wa_ (wc_region (?_)))))))))))))))))
     refine w_ (m_ (h := w_ (f_ (h := w_ (l_ (h := w_ (ca (hc := e_route1 pl a m sf c.row hp hk hc hcr hlong) (h := w_ (a_ (h := wo_nil (e_ (h := aft_normal (wc_draw (y_ (m_ (h := ax_ (h := y_ (m_ (h := ax_ (h := y_ (m_ (h := ax_ (h := y_ (m_ (h := ax_ (h := ?_))))))))))))))))))))))))))
     refine y_ (x_ (h := ax_ (h := y_ (l_ (h := ax_ (h := y_ (f_ (h := ax_ (h := y_ (l_ (h := ax_ (h := y_ (ca (hc := e_cloneI c.row hcr) (h := ax_ (h := y_ (f_ (h := ax_ (h := y_ (l_ (h := ax_ (h := y_ (bd (h := ax_ (h := y_ (bs (h := ax_ (h := y_ (?_))))))))))))))))))))))))))))
     refine apP (h := ?_)
     refine ax_ (h := y_ (x_ (h := ax_ (h := y0 (s_ (h := ax_ (h := wo_nil (ed (h := blk_normal (aft_normal (wc_region (w_ (b_ (h := w_ (m_ (h := wo_nil (e_ (h := ?_))))))))))))))))))
     )
  all_goals first
  | (refine (ih (i + 1) (by omega) ?_ _ ?_).trans ?_; (focus (first | omega | (simp; done) | (simp; omega))); (focus (simp [normE, hw, hqt, hqs]; done)); (focus (rfl)))
  | (apply end_leaf (ex := (Ext.exit 0)) 3 (some [7]); (focus (simp [normE]; rfl)); (focus (rw [List.take_of_length_le (by omega)])))
theorem e_partR (pl : List Nd) (a sf : Int) (z : List Et) (m : Nat) (hp : pl.length < 2000000) (hk : okN pl) (hc : routeC pl a m sf = 0) (hz : w_Ets z < 2000000) (hm : 0 < m) (hm2 : m < 2000000) (h1 : longE z (keyN pl a) = false) : oc.call 78 [.int .i64 m, .lst false 0 (ets false z), .clo 120 [.vptr (.lst false 0 (nds false 0 pl)), .vptr (.lst false 0 (ints (widN pl))), .vptr (.int .i64 a), .vptr (.int .i64 m), .vptr (.int .i64 sf)]] = some (.lst true 1 (etss true (partsN (rtf pl a m sf) m z)), []) := by
  refine fun_s rfl cd78 rfl rfl rfl (by simp; rfl) (by simp; rfl) ?_
  have hzl := w_Ets_len (l := z)
  refine wa_ (wc_region (w_ (aN (h := wo_nil (e_ (h := aft_normal (wa_ (wc_region (w_ (m_ (h := w_ (mk (h := w_ (a_ (h := wo_nil (e_ (h := aft_normal (?_))))))))))))))))))
  refine wa_ (wa_ (wc_region (w_ (m_ (h := w_ (le (h := w_ (m_ (h := wo_nil (e_ (h := aft_normal (wc_block (?_)))))))))))))
  refine wc_loop (l_partR pl a sf z m hp hk hc hz hm hm2 h1 0 (by omega) _ (by simp [normE, partsN_nil, etss_zero])) ?_
  refine blk_exit (aft_normal (wa_ (wc_region (w_ (m_ (h := w_ (a_ (h := wo_nil (e_ (h := aft_normal (wc_ret (?_))))))))))))
  all_goals (refine fin_ (hr := (res_tmp rfl res_nil)) (h := ?_); (focus (first | (simp_all; done) | (simp_all <;> omega) | (simp_all <;> split <;> simp_all <;> omega))))
def routeN (pl : List Nd) (a m sf : Int) (z : List Et) : Int × List (List Et) := if routeC pl a m sf = 0 then (if setC z = 0 then (if longE z (keyN pl a) = true then (1, []) else (0, partsN (rtf pl a m sf) m.toNat z)) else (setC z, [])) else (routeC pl a m sf, [])
theorem e_rouI (pl : List Nd) (a m sf : Int) (z : List Et) (hp : pl.length < 2000000) (hk : okN pl) (hz : w_Ets z < 2000000) : oc.call 47 [.lst false 0 (nds false 0 pl), .int .i64 a, .int .i64 m, .int .i64 sf, .lst false 0 (ets false z)] = some (srv (routeN pl a m sf z), []) := by
  refine fun_s rfl cd47 rfl rfl rfl (by simp; rfl) (by simp; rfl) ?_
  have hzl := w_Ets_len (l := z)
  refine wa_ (wc_region (w_ (bx (h := w_ (bx (h := w_ (bx (h := w_ (bx (h := w_ (al (h := wo_nil (e_ (h := aft_normal (wa_ (wc_region (w_ (l_ (h := ?_)))))))))))))))))))
  refine w_ (l_ (h := w_ (l_ (h := w_ (l_ (h := w_ (ca (hc := e_routeI pl a m sf hp hk) (h := w_ (m_ (h := w_ (ex (h := w_ (ex (h := w_ (al (h := w0 (s_ (h := w_ (a_ (h := wo_nil (e_ (h := aft_normal (?_)))))))))))))))))))))))
  refine wa_ (wa_ (wc_region (w_ (m_ (h := w_ (bE (h := wo_nil (e_ (h := aft_normal (?_))))))))))
  refine c_ (h1 := ?_) (h2 := ?_)
  rotate_right 1
  focus
   intro c1
   first
   | exact dn c1
   | (have d1 := c1; try simp at d1
      refine wc_skip (?_)
      )
  rotate_right 1
  focus
   intro c1
   first
   | exact dn c1
   | (have d1 := c1; try simp at d1
      have hm : 1 ≤ m ∧ m ≤ 3 := (by have := routeC_zero d1; omega); obtain ⟨M, rfl⟩ : ∃ M : Nat, m = M := ⟨m.toNat, by omega⟩
      refine wc_region (w_ (m_ (h := w_ (ca (hc := e_setI z hz) (h := w_ (a_ (h := wo_nil (e_ (h := ?_)))))))))
      )
  all_goals first
  | (refine aft_normal ?_
     refine wa_ (wa_ (wc_region (w_ (m_ (h := w_ (bE (h := w_ (m_ (h := ?_)))))))))
     refine gw_ (h1 := ?_) (h2 := ?_)
     rotate_right 1
     focus
      intro c2
      first
      | exact dn c2
      | (have d2 := c2; try simp at d2
         refine go_ (h := go_ (h := go_ (h := go_ (h := go_ (h := go_ (h := go_ (h := ?_)))))))
         )
     rotate_right 1
     focus
      intro c2
      first
      | exact dn c2
      | (have d2 := c2; try simp at d2
         refine g_ (h := w_ (m_ (h := g_ (h := w_ (l_ (h := g_ (h := w_ (l_ (h := g_ (h := w_ (l_ (h := g_ (h := w_ (ca (hc := e_keyI pl a hp hk (routeC_zero d1).1) (h := g_ (h := w_ (ca (hc := e_long z _ hz) (h := g_ (h := w_ (u_ (h := ?_)))))))))))))))))))))
         )
     all_goals
      refine w_ (pk (h := wo_nil (e_ (h := ?_))))
     all_goals first
     | (refine aft_normal ?_
        refine c_ (h1 := ?_) (h2 := ?_)
        rotate_right 1
        focus
         intro c3
         first
         | exact dn c3
         | (have d3 := c3; try simp at d3
            refine wc_skip (?_)
            )
        rotate_right 1
        focus
         intro c3
         first
         | exact dn c3
         | (have d3 := c3; try simp at d3
            refine wc_region (w_ (a_ (h := wo_nil (e_ (h := ?_)))))
            )
        )
     all_goals first
     | (refine aft_normal ?_
        refine wa_ (wa_ (wc_region (w_ (m_ (h := w_ (bE (h := wo_nil (e_ (h := aft_normal (?_))))))))))
        refine c_ (h1 := ?_) (h2 := ?_)
        rotate_right 1
        focus
         intro c4
         first
         | exact dn c4
         | (have d4 := c4; try simp at d4
            refine wc_skip (?_)
            )
        rotate_right 1
        focus
         intro c4
         first
         | exact dn c4
         | (have d4 := c4; try simp at d4
            refine wa_ (wc_region (w_ (m_ (h := w_ (bd (h := w0 (s_ (h := wo_nil (e_ (h := aft_normal (wc_ret (?_))))))))))))
            )
        all_goals first
        | refine aft_ret ?_
        | (refine aft_normal ?_
           refine wa_ (wc_region (w_ (l_ (h := w_ (m_ (h := w_ (mf (h := w_ (ca (hc := e_partR pl a sf z M hp hk d1 hz (by omega) (by omega) (by simpa using d3)) (h := w_ (bd (h := w0 (s_ (h := wo_nil (e_ (h := aft_normal (wc_ret (?_))))))))))))))))))
           )
        )
     )
  all_goals (refine fin_ (hr := (res_cell (tys_ok.zero _ _ rfl) rfl (by simp; rfl) (by rfl) res_nil)) (h := ?_); (focus (clear hk; first | (simp only [routeN]; simp at *; simp [*]; done) | (simp [routeN, *]; done))))
theorem l_rouS (pl : List Nd) (a sf : Int) (z : List Et) (m : Nat) (hp : pl.length < 2000000) (hk : okN pl) (hc : routeC pl a m sf = 0) (hz : w_Ets z < 2000000) (hm : 0 < m) (hm2 : m < 2000000) (h1 : longE z (keyN pl a) = false) : ∀ i : Nat, (i ≤ z.length) → ∀ s, normE 5 (some [0, 1, 2, 3, 4, 11, 12]) s = ⟨[(0, .lst false 0 (nds false 0 pl)), (1, .int .i64 a), (2, .int .i64 m), (3, .int .i64 sf), (4, .lst false 0 (ets false z)), (11, .ref 5 0 m), (12, .int .i64 i)], [(5, ⟨false, false, 1, etss true (partsN (rtf pl a m sf) m (z.take i)), 0⟩)], 6⟩ →
    oc.loop 117 3 s = some (.exit 0, ⟨[(11, .ref 5 0 m)], [(5, ⟨false, false, 1, etss true (partsN (rtf pl a m sf) m z), 0⟩)], 6⟩) := by
  refine loop_ind (σ := Nat) (fun i => z.length - i) _ (fun i => ⟨[(0, .lst false 0 (nds false 0 pl)), (1, .int .i64 a), (2, .int .i64 m), (3, .int .i64 sf), (4, .lst false 0 (ets false z)), (11, .ref 5 0 m), (12, .int .i64 i)], [(5, ⟨false, false, 1, etss true (partsN (rtf pl a m sf) m (z.take i)), 0⟩)], 6⟩) _ ?_
  intro i hi ih s hs
  refine loop_s cd117 rfl rfl hs ?_
  have hzl := w_Ets_len (l := z)
  refine wa_ (wa_ (wc_region (w_ (m_ (h := w_ (m_ (h := w_ (le (h := w_ (b_ (h := wo_nil (e_ (h := aft_normal (?_))))))))))))))
  refine c_ (h1 := ?_) (h2 := ?_)
  rotate_right 1
  focus
   intro c1
   first
   | exact dn c1
   | (have d1 := c1; try simp at d1
      refine wc_exit (?_)
      )
  rotate_right 1
  focus
   intro c1
   first
   | exact dn c1
   | (have d1 := c1; try simp at d1
      have hw := wrap_succ (i := i) (by omega); obtain ⟨c, hx, e1, g1⟩ := ets_cut (t := false) (l := z) (i := i) (by omega); have hcm := List.mem_of_getElem? hx; have hcr := row_in hz hcm; have hlong := longE_row h1 hcm; have hsh := dstN_in (r := c.row) hc; obtain ⟨q, hq, hql, hqs⟩ := partsN_snoc (f := rtf pl a m sf) (m := m) hx hsh.1 hsh.2; have g2 : (etss true (partsN (rtf pl a m sf) m (z.take i)))[(dstN pl a m sf c.row).toNat]? = some (.lst true 2 (ets true q)) := etss_get (t := true) hq; change (partsN (rtf pl a m sf) m (z.take i)).set (dstN pl a m sf c.row).toNat (q ++ [c]) = _ at hqs; have hqt : List.take (q.length + 1) (q ++ [({ row := c.row, w := c.w } : Et)]) = q ++ [c] := List.take_of_length_le (by simp)
      refine wc_skip (?_)
      )
  all_goals first
  | refine aft_exit ?_
  | (refine aft_normal ?_
     refine wa_ (wc_block (wa_ (wc_region (w_ (m_ (h := w_ (m_ (h := w_ (m_ (h := w_ (m_ (h := w_ (m_ (h := w_ (m_ (h := w_ (x_ (h := w_ (f_ (h := ?_))))))))))))))))))))
     refine w_ (l_ (h := w_ (ca (hc := e_goS pl a m sf c.row hp hk hc hcr hlong) (h := w_ (a_ (h := wo_nil (e_ (h := aft_normal (wc_draw (y_ (m_ (h := ax_ (h := y_ (m_ (h := ax_ (h := y_ (m_ (h := ax_ (h := y_ (m_ (h := ax_ (h := y_ (x_ (h := ax_ (h := y_ (l_ (h := ax_ (h := ?_))))))))))))))))))))))))))))
     refine y_ (m_ (h := ax_ (h := y_ (m_ (h := ax_ (h := y_ (x_ (h := ax_ (h := y_ (f_ (h := ax_ (h := y_ (l_ (h := ax_ (h := y_ (ca (hc := e_l2Row c.row hcr) (h := ax_ (h := y_ (m_ (h := ax_ (h := y_ (m_ (h := ax_ (h := y_ (x_ (h := ax_ (h := y_ (f_ (h := ax_ (h := y_ (l_ (h := ax_ (h := y_ (bd (h := ax_ (h := ?_))))))))))))))))))))))))))))))))))))
     refine y_ (bs (h := ax_ (h := y_ (?_))))
     refine apP (h := ?_)
     refine ax_ (h := y_ (x_ (h := ax_ (h := y0 (s_ (h := ax_ (h := wo_nil (ed (h := blk_normal (aft_normal (wc_region (w_ (m_ (h := w_ (b_ (h := w_ (a_ (h := wo_nil (e_ (h := ?_))))))))))))))))))))
     )
  all_goals first
  | (refine (ih (i + 1) (by omega) ?_ _ ?_).trans ?_; (focus (first | omega | (simp; done) | (simp; omega))); (focus (simp [normE, hw, hqt, hqs]; done)); (focus (rfl)))
  | (apply end_leaf (ex := (Ext.exit 0)) 5 (some [11]); (focus (simp [normE]; rfl)); (focus (rw [List.take_of_length_le (by omega)])))
theorem e_rou2 (pl : List Nd) (a sf : Int) (z : List Et) (m : Nat) (hp : pl.length < 2000000) (hk : okN pl) (hc : routeC pl a m sf = 0) (hz : w_Ets z < 2000000) (hm : 0 < m) (hm2 : m < 2000000) (h1 : longE z (keyN pl a) = false) : oc.call 117 [.lst false 0 (nds false 0 pl), .int .i64 a, .int .i64 m, .int .i64 sf, .lst false 0 (ets false z)] = some (.lst true 1 (etss true (partsN (rtf pl a m sf) m z)), []) := by
  refine fun_s rfl cd117 rfl rfl rfl (by simp; rfl) (by simp; rfl) ?_
  have hzl := w_Ets_len (l := z)
  refine wa_ (wc_region (w_ (aN (h := wo_nil (e_ (h := aft_normal (wa_ (wc_region (w_ (m_ (h := w_ (mk (h := w_ (a_ (h := wo_nil (e_ (h := aft_normal (?_))))))))))))))))))
  refine wa_ (wa_ (wc_region (w_ (a_ (h := wo_nil (e_ (h := aft_normal (wc_block (?_)))))))))
  refine wc_loop (l_rouS pl a sf z m hp hk hc hz hm hm2 h1 0 (by omega) _ (by simp [normE, partsN_nil, etss_zero])) ?_
  refine blk_exit (aft_normal (wa_ (wc_region (w_ (m_ (h := w_ (a_ (h := wo_nil (e_ (h := aft_normal (wc_ret (?_))))))))))))
  all_goals (refine fin_ (hr := (res_tmp rfl res_nil)) (h := ?_); (focus (first | (simp_all; done) | (simp_all <;> omega) | (simp_all <;> split <;> simp_all <;> omega))))
theorem e_rouS (pl : List Nd) (a m sf : Int) (z : List Et) (hp : pl.length < 2000000) (hk : okN pl) (hz : w_Ets z < 2000000) : oc.call 46 [.lst false 0 (nds false 0 pl), .int .i64 a, .int .i64 m, .int .i64 sf, .lst false 0 (ets false z)] = some (srv (routeN pl a m sf z), []) := by
  refine fun_s rfl cd46 rfl rfl rfl (by simp; rfl) (by simp; rfl) ?_
  have hzl := w_Ets_len (l := z)
  refine wa_ (wc_region (w_ (al (h := wo_nil (e_ (h := aft_normal (wa_ (wa_ (wc_region (w_ (m_ (h := w_ (m_ (h := w_ (m_ (h := w_ (m_ (h := ?_))))))))))))))))))
  refine w_ (ca (hc := e_routeS pl a m sf hp hk) (h := w_ (a_ (h := wo_nil (e_ (h := aft_normal (wa_ (wc_region (w_ (m_ (h := w_ (bE (h := wo_nil (e_ (h := aft_normal (?_))))))))))))))))
  refine c_ (h1 := ?_) (h2 := ?_)
  rotate_right 1
  focus
   intro c1
   first
   | exact dn c1
   | (have d1 := c1; try simp at d1
      have hm : 1 ≤ m ∧ m ≤ 3 := (by have := routeC_zero d1; omega); obtain ⟨M, rfl⟩ : ∃ M : Nat, m = M := ⟨m.toNat, by omega⟩
      refine wc_skip (?_)
      )
  rotate_right 1
  focus
   intro c1
   first
   | exact dn c1
   | (have d1 := c1; try simp at d1
      refine wa_ (wc_region (w_ (m_ (h := w_ (bd (h := w0 (s_ (h := wo_nil (e_ (h := aft_normal (wc_ret (?_))))))))))))
      )
  all_goals first
  | refine aft_ret ?_
  | (refine aft_normal ?_
     refine wa_ (wa_ (wc_region (w_ (m_ (h := w_ (ca (hc := e_setS z hz) (h := w_ (a_ (h := wo_nil (e_ (h := aft_normal (wa_ (wc_region (w_ (m_ (h := w_ (bE (h := ?_))))))))))))))))))
     refine wo_nil (e_ (h := aft_normal (?_)))
     refine c_ (h1 := ?_) (h2 := ?_)
     rotate_right 1
     focus
      intro c2
      first
      | exact dn c2
      | (have d2 := c2; try simp at d2
         refine wc_skip (?_)
         )
     rotate_right 1
     focus
      intro c2
      first
      | exact dn c2
      | (have d2 := c2; try simp at d2
         refine wa_ (wc_region (w_ (m_ (h := w_ (bd (h := w0 (s_ (h := wo_nil (e_ (h := aft_normal (wc_ret (?_))))))))))))
         )
     all_goals first
     | refine aft_ret ?_
     | (refine aft_normal ?_
        refine wa_ (wa_ (wc_region (w_ (m_ (h := w_ (m_ (h := w_ (m_ (h := w_ (ca (hc := e_keyS pl a hp hk (routeC_zero d1).1) (h := w_ (ca (hc := e_short z _ hz) (h := wo_nil (e_ (h := aft_normal (?_))))))))))))))))
        refine c_ (h1 := ?_) (h2 := ?_)
        rotate_right 1
        focus
         intro c3
         first
         | exact dn c3
         | (have d3 := c3; try simp at d3
            refine wc_skip (?_)
            )
        rotate_right 1
        focus
         intro c3
         first
         | exact dn c3
         | (have d3 := c3; try simp at d3
            refine wa_ (wc_region (w_ (bd (h := w0 (s_ (h := wo_nil (e_ (h := aft_normal (wc_ret (?_))))))))))
            )
        all_goals first
        | refine aft_ret ?_
        | (refine aft_normal ?_
           refine wa_ (wc_region (w_ (m_ (h := w_ (m_ (h := w_ (m_ (h := w_ (m_ (h := w_ (m_ (h := w_ (ca (hc := e_rou2 pl a sf z M hp hk d1 hz (by omega) (by omega) (by simpa using d3)) (h := w_ (bd (h := w0 (s_ (h := wo_nil (e_ (h := aft_normal (?_)))))))))))))))))))))
           refine wc_ret (?_)
           )
        )
     )
  all_goals (refine fin_ (hr := (res_cell (tys_ok.zero _ _ rfl) rfl (by simp; rfl) (by rfl) res_nil)) (h := ?_); (focus (clear hk; first | (simp only [routeN]; simp at *; simp [*]; done) | (simp [routeN, *]; done))))
theorem routeN_out {pl : List Nd} {a m sf : Int} {z : List Et} : outOf z (routeN pl a m sf z).2 := by
  have h0 : outOf z [] := ⟨by simp, fun q hq => by cases hq⟩
  unfold routeN
  split
  · rename_i h
    have : m.toNat ≤ 3 := by have := routeC_zero h; omega
    split
    · split
      · exact h0
      · exact partsN_out this
    · exact h0
  · exact h0
theorem cn_Nds_lt {l : List Nd} (hp : l.length < 2000000) (hk : okN l) : cn_Nds l < 5000000000000 := by
  have h1 : cn_Nds l ≤ l.length * 2000006 := wS_leS (f := cn_Nd) (fun x hx => by have := hk x hx; unfold cn_Nd; omega)
  have h2 : l.length * 2000006 ≤ 2000000 * 2000006 := Nat.mul_le_mul_right _ (by omega)
  omega
theorem law_route (pl : List Nd) (a m sf : Int) (z : List Et) (ho : okB pl) (hz : bg_Ets z) : oc.call 8 [.lst false 0 (nds false 0 pl), .int .i64 a, .int .i64 m, .int .i64 sf, .lst false 0 (ets false z)] = some (.bool true, []) := by
  refine fun_s rfl cd8 rfl rfl rfl (by simp; rfl) (by simp; rfl) ?_
  refine wa_ (wc_region (w_ (a_ (h := wo_nil (e_ (h := aft_normal (wa_ (wc_region (w_ (a_ (h := wo_nil (e_ (h := aft_normal (wa_ (wc_region (?_))))))))))))))))
  refine w_ (m_ (h := w_ (m_ (h := w_ (ca (hc := e_szNS pl 0 1048576 ho (by omega) (by omega)) (h := w_ (a_ (h := wo_nil (e_ (h := aft_normal (wa_ (wa_ (wc_region (w_ (m_ (h := w_ (b_ (h := wo_nil (e_ (h := ?_))))))))))))))))))))
  refine aft_normal (?_)
  refine c_ (h1 := ?_) (h2 := ?_)
  rotate_right 1
  focus
   intro c1
   first
   | exact dn c1
   | (have d1 := c1; try simp at d1
      obtain ⟨h1, h2, h3⟩ := szP_ok (l := pl) (a := 1048576) (by omega) (by omega); have hnd := cn_Nds_lt h1 h2
      refine wc_skip (?_)
      )
  rotate_right 1
  focus
   intro c1
   first
   | exact dn c1
   | (have d1 := c1; try simp at d1
      refine wa_ (wc_region (w_ (a_ (h := wo_nil (e_ (h := aft_normal (wc_ret (?_))))))))
      )
  all_goals first
  | refine aft_ret ?_
  | (refine aft_normal ?_
     refine wa_ (wc_region (w_ (m_ (h := w_ (m_ (h := w_ (ca (hc := sz_Ets z (szP pl 1048576) hz (by omega) (by omega)) (h := w_ (a_ (h := wo_nil (e_ (h := aft_normal (wa_ (wa_ (wc_region (w_ (m_ (h := ?_))))))))))))))))))
     refine w_ (b_ (h := wo_nil (e_ (h := aft_normal (?_)))))
     refine c_ (h1 := ?_) (h2 := ?_)
     rotate_right 1
     focus
      intro c2
      first
      | exact dn c2
      | (have d2 := c2; try simp at d2
         obtain ⟨h4, h5⟩ := szI_pos (n := w_Ets z) (a := szP pl 1048576) (by omega); have hw : w_Ets z < 2000000 := (by omega); have hro := routeN_out (pl := pl) (a := a) (m := m) (sf := sf) (z := z); have hs := outOf_wEs hw hro; have hcc := outOf_cn hw hro; have hcz := cn_Ets_eq (l := z); have hol := hro.1
         refine wc_skip (?_)
         )
     rotate_right 1
     focus
      intro c2
      first
      | exact dn c2
      | (have d2 := c2; try simp at d2
         refine wa_ (wc_region (w_ (a_ (h := wo_nil (e_ (h := aft_normal (wc_ret (?_))))))))
         )
     all_goals first
     | refine aft_ret ?_
     | (refine aft_normal ?_
        refine wa_ (wc_region (w_ (m_ (h := w_ (ca (hc := e_toNS pl 0 h1 h2) (h := w_ (m_ (h := w_ (m_ (h := w_ (m_ (h := w_ (m_ (h := w_ (ca (hc := to_Ets z hw) (h := w_ (ca (hc := e_rouS pl a m sf z h1 h2 hw) (h := w_ (al (h := w0 (s_ (h := ?_))))))))))))))))))))))
        refine wo_nil (e_ (h := aft_normal (wa_ (wc_region (w_ (m_ (h := w_ (ca (hc := e_toNS pl 0 h1 h2) (h := w_ (a_ (h := wo_nil (e_ (h := aft_normal (wa_ (wc_region (w_ (m_ (h := ?_))))))))))))))))))
        refine w_ (ca (hc := to_Ets z hw) (h := w_ (a_ (h := wo_nil (e_ (h := aft_normal (wa_ (wc_region (w_ (m_ (h := w_ (m_ (h := w_ (m_ (h := w_ (m_ (h := w_ (m_ (h := w_ (ca (hc := e_rouI pl a m sf z h1 h2 hw) (h := ?_)))))))))))))))))))))
        refine w_ (al (h := w0 (s_ (h := wo_nil (e_ (h := aft_normal (wa_ (wa_ (wc_region (w_ (l_ (h := w_ (l_ (h := w_ (ca (hc := e_eqSr (routeN pl a m sf z) (routeN pl a m sf z) hs hs) (h := w_ (u_ (h := wo_nil (e_ (h := ?_))))))))))))))))))))
        refine aft_normal (?_)
        refine c_ (h1 := ?_) (h2 := ?_)
        rotate_right 1
        focus
         intro c3
         first
         | exact dn c3
         | (have d3 := c3; try simp at d3
            refine wc_skip (?_)
            )
        rotate_right 1
        focus
         intro c3
         first
         | exact dn c3
         | (have d3 := c3; try simp at d3
            refine wa_ (wc_region (w_ (a_ (h := wo_nil (e_ (h := aft_normal (wc_ret (?_))))))))
            )
        all_goals first
        | refine aft_ret ?_
        | (refine aft_normal ?_
           refine wa_ (wa_ (wc_region (w_ (m_ (h := w_ (m_ (h := w_ (ca (hc := e_toNS pl 0 h1 h2) (h := w_ (ca (hc := e_eqNS pl pl 0 0 h1 h1 h2 h2) (h := w_ (u_ (h := wo_nil (e_ (h := aft_normal (?_))))))))))))))))
           refine c_ (h1 := ?_) (h2 := ?_)
           rotate_right 1
           focus
            intro c4
            first
            | exact dn c4
            | (have d4 := c4; try simp at d4
               refine wc_skip (?_)
               )
           rotate_right 1
           focus
            intro c4
            first
            | exact dn c4
            | (have d4 := c4; try simp at d4
               refine wa_ (wc_region (w_ (a_ (h := wo_nil (e_ (h := aft_normal (wc_ret (?_))))))))
               )
           all_goals first
           | refine aft_ret ?_
           | (refine aft_normal ?_
              refine wa_ (wa_ (wc_region (w_ (m_ (h := w_ (m_ (h := w_ (ca (hc := to_Ets z hw) (h := w_ (ca (hc := eq_Ets z z hw hw) (h := w_ (u_ (h := wo_nil (e_ (h := aft_normal (?_))))))))))))))))
              refine c_ (h1 := ?_) (h2 := ?_)
              rotate_right 1
              focus
               intro c5
               first
               | exact dn c5
               | (have d5 := c5; try simp at d5
                  refine wc_skip (?_)
                  )
              rotate_right 1
              focus
               intro c5
               first
               | exact dn c5
               | (have d5 := c5; try simp at d5
                  refine wa_ (wc_region (w_ (a_ (h := wo_nil (e_ (h := aft_normal (wc_ret (?_))))))))
                  )
              all_goals first
              | refine aft_ret ?_
              | (refine aft_normal ?_
                 refine wa_ (wc_region (w_ (a_ (h := wo_nil (e_ (h := aft_normal (wa_ (wc_region (w_ (m_ (h := w_ (m_ (h := ?_)))))))))))))
                 first | refine ip (hc := mkf_Nds 1 pl (by omega) (by omega)) (h := ?_) | refine iq (hc := mkf_Nds 1 pl (by omega) (by omega)) (h := ?_)
                 refine w_ (a_ (h := wo_nil (e_ (h := aft_normal (wa_ (wc_region (w_ (m_ (h := w_ (m_ (h := ?_)))))))))))
                 first | refine ip (hc := mkf_Ets (1 + (cn_Nds pl : Nat)) z (by omega) (by omega)) (h := ?_) | refine iq (hc := mkf_Ets (1 + (cn_Nds pl : Nat)) z (by omega) (by omega)) (h := ?_)
                 refine w_ (a_ (h := wo_nil (e_ (h := aft_normal (wa_ (wa_ (wc_region (w_ (m_ (h := w_ (b_ (h := w_ (m_ (h := ?_))))))))))))))
                 refine gw_ (h1 := ?_) (h2 := ?_)
                 rotate_right 1
                 focus
                  intro c6
                  first
                  | exact dn c6
                  | (have d6 := c6; try simp at d6
                     refine go_ (h := go_ (h := go_ (h := go_ (h := ?_))))
                     )
                 rotate_right 1
                 focus
                  intro c6
                  first
                  | exact dn c6
                  | (have d6 := c6; try simp at d6
                     refine g_ (h := w_ (l_ (h := g_ (h := w_ (l_ (h := g_ (h := w_ (ca (hc := e_eqSr (routeN pl a m sf z) (routeN pl a m sf z) hs hs) (h := g_ (h := w_ (u_ (h := ?_))))))))))))
                     )
                 all_goals
                  refine w_ (pk (h := wo_nil (e_ (h := ?_))))
                 all_goals first
                 | (refine aft_normal ?_
                    refine c_ (h1 := ?_) (h2 := ?_)
                    rotate_right 1
                    focus
                     intro c7
                     first
                     | exact dn c7
                     | (have d7 := c7; try simp at d7
                        refine wc_skip (?_)
                        )
                    rotate_right 1
                    focus
                     intro c7
                     first
                     | exact dn c7
                     | (have d7 := c7; try simp at d7
                        refine wa_ (wc_region (w_ (a_ (h := wo_nil (e_ (h := aft_normal (wc_ret (?_))))))))
                        )
                    )
                 all_goals first
                 | refine aft_ret ?_
                 | (refine aft_normal ?_
                    refine wa_ (wc_region (w_ (a_ (h := wo_nil (e_ (h := aft_normal (wa_ (wc_region (w_ (l_ (h := w_ (m_ (h := ?_)))))))))))))
                    refine iE (h := ?_)
                    apply Exists.intro
                    apply Exists.intro
                    apply Exists.intro
                    apply And.intro
                    focus
                     apply inl_s (by rw [cf_pl]; rfl) cd19 rfl rfl (by simp; rfl)
                     refine wa_ (wc_region (w_ (bx (h := w_ (a_ (h := wo_nil (e_ (h := aft_normal (wa_ (wc_region (w_ (f_ (h := w_ (l_ (h := w_ (m_ (h := ?_)))))))))))))))))
                     first | refine ip (hc := mkf_Etss 1 (routeN pl a m sf z).2 (by omega) (by omega) (by omega)) (h := ?_) | refine iq (hc := mkf_Etss 1 (routeN pl a m sf z).2 (by omega) (by omega) (by omega)) (h := ?_)
                     refine w_ (a_ (h := wo_nil (e_ (h := aft_normal (wa_ (wc_region (w_ (m_ (h := w_ (a_ (h := wo_nil (e_ (h := aft_normal (wc_ret (?_)))))))))))))))
                     exact ⟨by simp, _, rfl, rfl, rfl⟩
                    refine ⟨_, (by (simp; rfl)), ?_⟩
                    refine w_ (a_ (h := wo_nil (e_ (h := aft_normal (wa_ (wc_region (w_ (a_ (h := wo_nil (e_ (h := aft_normal (wa_ (wc_region (w_ (l_ (h := w_ (m_ (h := ?_))))))))))))))))))
                    refine w_ (ca (hc := e_heldSr (routeN pl a m sf z).1 1 (routeN pl a m sf z).2 (by omega) (by omega) (by omega)) (h := w_ (a_ (h := wo_nil (e_ (h := aft_normal (wa_ (wa_ (wc_region (w_ (m_ (h := w_ (b_ (h := wo_nil (e_ (h := aft_normal (?_)))))))))))))))))
                    refine c_ (h1 := ?_) (h2 := ?_)
                    rotate_right 1
                    focus
                     intro c8
                     first
                     | exact dn c8
                     | (have d8 := c8; try simp at d8
                        refine wc_skip (?_)
                        )
                    rotate_right 1
                    focus
                     intro c8
                     first
                     | exact dn c8
                     | (have d8 := c8; try simp at d8
                        refine wa_ (wc_region (w_ (a_ (h := wo_nil (e_ (h := aft_normal (wc_ret (?_))))))))
                        )
                    all_goals first
                    | refine aft_ret ?_
                    | (refine aft_normal ?_
                       refine wa_ (wa_ (wc_region (w_ (m_ (h := w_ (m_ (h := w_ (bE (h := wo_nil (e_ (h := aft_normal (?_))))))))))))
                       refine c_ (h1 := ?_) (h2 := ?_)
                       rotate_right 1
                       focus
                        intro c9
                        first
                        | exact dn c9
                        | (have d9 := c9; try simp at d9
                           refine wc_skip (?_)
                           )
                       rotate_right 1
                       focus
                        intro c9
                        first
                        | exact dn c9
                        | (have d9 := c9; try simp at d9
                           refine wa_ (wc_region (w_ (a_ (h := wo_nil (e_ (h := aft_normal (wc_ret (?_))))))))
                           )
                       all_goals first
                       | refine aft_ret ?_
                       | (refine aft_normal ?_
                          refine wa_ (wc_region (w_ (m_ (h := w_ (ca (hc := e_toNS pl 0 h1 h2) (h := w_ (m_ (h := w_ (m_ (h := w_ (m_ (h := w_ (m_ (h := w_ (ca (hc := to_Ets z hw) (h := w_ (ca (hc := e_rouI pl a m sf z h1 h2 hw) (h := w_ (al (h := w0 (s_ (h := ?_))))))))))))))))))))))
                          refine wo_nil (e_ (h := aft_normal (wa_ (wa_ (wc_region (w_ (l_ (h := w_ (l_ (h := w_ (ca (hc := e_eqSr (routeN pl a m sf z) (routeN pl a m sf z) hs hs) (h := w_ (u_ (h := wo_nil (e_ (h := aft_normal (?_)))))))))))))))))
                          refine c_ (h1 := ?_) (h2 := ?_)
                          rotate_right 1
                          focus
                           intro c10
                           first
                           | exact dn c10
                           | (have d10 := c10; try simp at d10
                              refine wc_skip (?_)
                              )
                          rotate_right 1
                          focus
                           intro c10
                           first
                           | exact dn c10
                           | (have d10 := c10; try simp at d10
                              refine wa_ (wc_region (w_ (a_ (h := wo_nil (e_ (h := aft_normal (wc_ret (?_))))))))
                              )
                          all_goals first
                          | refine aft_ret ?_
                          | (refine aft_normal ?_
                             refine wa_ (wc_region (w_ (a_ (h := wo_nil (e_ (h := aft_normal (wa_ (wc_region (w_ (l_ (h := w_ (m_ (h := w_ (ca (hc := e_heldSr (routeN pl a m sf z).1 1 (routeN pl a m sf z).2 (by omega) (by omega) (by omega)) (h := w_ (a_ (h := wo_nil (e_ (h := ?_)))))))))))))))))))
                             refine aft_normal (wa_ (wa_ (wc_region (w_ (m_ (h := w_ (b_ (h := wo_nil (e_ (h := aft_normal (?_)))))))))))
                             refine c_ (h1 := ?_) (h2 := ?_)
                             rotate_right 1
                             focus
                              intro c11
                              first
                              | exact dn c11
                              | (have d11 := c11; try simp at d11
                                 refine wc_skip (?_)
                                 )
                             rotate_right 1
                             focus
                              intro c11
                              first
                              | exact dn c11
                              | (have d11 := c11; try simp at d11
                                 refine wa_ (wc_region (w_ (a_ (h := wo_nil (e_ (h := aft_normal (wc_ret (?_))))))))
                                 )
                             all_goals first
                             | refine aft_ret ?_
                             | (refine aft_normal ?_
                                refine wa_ (wa_ (wc_region (w_ (m_ (h := w_ (m_ (h := w_ (bE (h := wo_nil (e_ (h := aft_normal (?_))))))))))))
                                refine c_ (h1 := ?_) (h2 := ?_)
                                rotate_right 1
                                focus
                                 intro c12
                                 first
                                 | exact dn c12
                                 | (have d12 := c12; try simp at d12
                                    refine wc_skip (?_)
                                    )
                                rotate_right 1
                                focus
                                 intro c12
                                 first
                                 | exact dn c12
                                 | (have d12 := c12; try simp at d12
                                    refine wa_ (wc_region (w_ (a_ (h := wo_nil (e_ (h := aft_normal (wc_ret (?_))))))))
                                    )
                                all_goals first
                                | refine aft_ret ?_
                                | (refine aft_normal ?_
                                   refine wa_ (wc_region (w_ (a_ (h := wo_nil (e_ (h := aft_normal (wc_ret (?_))))))))
                                   )
                                )
                             )
                          )
                       )
                    )
                 )
              )
           )
        )
     )
  all_goals (refine fin_ (hr := (res_tmp rfl res_nil)) (h := ?_); (focus (simp)))
end Go.Proofs.Ytgkbmiaimjpbfaa.Ev
