/- Part 4 of the proof that the law named in the last part returns true at every argument: an evaluator of the program, shown sound, and its runs. No further conditions. -/
import Derived.Test.YtgkbmiaimjpbfaaML1603
namespace Go.Proofs.Ytgkbmiaimjpbfaa.Ev
open Go
set_option maxRecDepth 100000
set_option linter.unusedSimpArgs false
set_option linter.unusedVariables false
set_option maxHeartbeats 2000000
theorem e_in (a b c : Int) : oc.call 150 [.int .i64 a, .int .i64 b, .int .i64 c] = some (.bool (inI a b c), []) := by
  refine fun_s rfl cd150 rfl rfl rfl (by simp; rfl) (by simp; rfl) ?_
  refine wa_ (wc_region (w_ (a_ (h := wo_nil (e_ (h := aft_normal (wa_ (wc_region (w_ (m_ (h := w_ (m_ (h := w_ (b_ (h := w_ (m_ (h := ?_)))))))))))))))))
  refine gw_ (h1 := ?_) (h2 := ?_)
  rotate_right 1
  focus
   intro c1
   refine go_ (h := go_ (h := go_ (h := ?_)))
  rotate_right 1
  focus
   intro c1
   refine g_ (h := w_ (m_ (h := g_ (h := w_ (m_ (h := g_ (h := w_ (b_ (h := ?_)))))))))
  all_goals
   refine w_ (pk (h := w_ (a_ (h := wo_nil (e_ (h := ?_))))))
  all_goals first
  | (refine aft_normal ?_
     refine wc_ret (?_)
     )
  all_goals (refine fin_ (hr := (res_tmp rfl res_nil)) (h := ?_); (focus (simp_all [inI] <;> omega)))
theorem e_l1In (a b c : Int) : oc.call 108 [.int .i64 a, .int .i64 b, .int .i64 c] = some (.bool (inI a b c), []) := by
  refine fun_s rfl cd108 rfl rfl rfl (by simp; rfl) (by simp; rfl) ?_
  refine wa_ (wc_region (w_ (a_ (h := wo_nil (e_ (h := aft_normal (wa_ (wc_region (w_ (m_ (h := w_ (m_ (h := w_ (b_ (h := w_ (m_ (h := ?_)))))))))))))))))
  refine gw_ (h1 := ?_) (h2 := ?_)
  rotate_right 1
  focus
   intro c1
   refine go_ (h := go_ (h := go_ (h := ?_)))
  rotate_right 1
  focus
   intro c1
   refine g_ (h := w_ (m_ (h := g_ (h := w_ (m_ (h := g_ (h := w_ (b_ (h := ?_)))))))))
  all_goals
   refine w_ (pk (h := w_ (a_ (h := wo_nil (e_ (h := ?_))))))
  all_goals first
  | (refine aft_normal ?_
     refine wc_ret (?_)
     )
  all_goals (refine fin_ (hr := (res_tmp rfl res_nil)) (h := ?_); (focus (simp_all [inI] <;> omega)))
theorem e_l1Min (a b : Int) : oc.call 163 [.int .i64 a, .int .i64 b] = some (.int .i64 (if a < b then a else b), []) := by
  refine fun_s rfl cd163 rfl rfl rfl (by simp; rfl) (by simp; rfl) ?_
  refine wa_ (wc_region (w_ (a_ (h := wo_nil (e_ (h := aft_normal (wa_ (wa_ (wc_region (w_ (m_ (h := w_ (m_ (h := w_ (b_ (h := wo_nil (e_ (h := ?_))))))))))))))))))
  refine aft_normal (?_)
  refine c_ (h1 := ?_) (h2 := ?_)
  rotate_right 1
  focus
   intro c1
   refine wc_skip (?_)
  rotate_right 1
  focus
   intro c1
   refine wa_ (wc_region (w_ (m_ (h := w_ (a_ (h := wo_nil (e_ (h := aft_normal (wc_ret (?_))))))))))
  all_goals first
  | refine aft_ret ?_
  | (refine aft_normal ?_
     refine wa_ (wc_region (w_ (m_ (h := w_ (a_ (h := wo_nil (e_ (h := aft_normal (wc_ret (?_))))))))))
     )
  all_goals (refine fin_ (hr := (res_tmp rfl res_nil)) (h := ?_); (focus (first | (simp_all; done) | (simp_all <;> omega) | (simp_all <;> split <;> simp_all <;> omega))))
theorem e_two (a : Int) : oc.call 194 [.int .i64 a] = some (.bool (decide (a = 4) || decide (a = 6)), []) := by
  refine fun_s rfl cd194 rfl rfl rfl (by simp; rfl) (by simp; rfl) ?_
  refine wa_ (wc_region (w_ (a_ (h := wo_nil (e_ (h := aft_normal (wa_ (wc_region (w_ (m_ (h := w_ (bE (h := w_ (m_ (h := ?_)))))))))))))))
  refine gw_ (h1 := ?_) (h2 := ?_)
  rotate_right 1
  focus
   intro c1
   refine go_ (h := go_ (h := ?_))
  rotate_right 1
  focus
   intro c1
   refine g_ (h := w_ (m_ (h := g_ (h := w_ (bE (h := ?_))))))
  all_goals
   refine w_ (pk (h := w_ (a_ (h := wo_nil (e_ (h := ?_))))))
  all_goals first
  | (refine aft_normal ?_
     refine wc_ret (?_)
     )
  all_goals (refine fin_ (hr := (res_tmp rfl res_nil)) (h := ?_); (focus (first | (simp_all; done) | (simp_all <;> omega) | (simp_all <;> split <;> simp_all <;> omega))))
theorem e_grouped (a : Int) : oc.call 198 [.int .i64 a] = some (.bool (inI a 7 10), []) := by
  refine fun_s rfl cd198 rfl rfl rfl (by simp; rfl) (by simp; rfl) ?_
  refine wa_ (wc_region (w_ (a_ (h := wo_nil (e_ (h := aft_normal (wa_ (wc_region (w_ (m_ (h := w_ (ca (hc := e_in _ _ _) (h := w_ (a_ (h := wo_nil (e_ (h := aft_normal (?_))))))))))))))))))
  refine wc_ret (?_)
  all_goals (refine fin_ (hr := (res_tmp rfl res_nil)) (h := ?_); (focus (first | (simp_all; done) | (simp_all <;> omega) | (simp_all <;> split <;> simp_all <;> omega))))
theorem e_l3Reads (a : Int) : oc.call 161 [.int .i64 a] = some (.int .i64 (if a = 1 then 0 else if a = 4 ∨ a = 6 then 2 else 1), []) := by
  refine fun_s rfl cd161 rfl rfl rfl (by simp; rfl) (by simp; rfl) ?_
  refine wa_ (wc_region (w_ (a_ (h := wo_nil (e_ (h := aft_normal (wa_ (wa_ (wc_region (w_ (m_ (h := wo_nil (e_ (h := aft_normal (wc_block (?_))))))))))))))))
  refine wa_ (wc_region (w_ (bE (h := w_ (a_ (h := wo_nil (e_ (h := aft_normal (?_)))))))))
  refine c_ (h1 := ?_) (h2 := ?_)
  rotate_right 1
  focus
   intro c1
   refine wa_ (wa_ (wc_region (w_ (bE (h := w_ (a_ (h := wo_nil (e_ (h := aft_normal (?_))))))))))
   refine c_ (h1 := ?_) (h2 := ?_)
   rotate_right 1
   focus
    intro c2
    refine wc_region (w_ (bE (h := w_ (a_ (h := wo_nil (e_ (h := ?_)))))))
   rotate_right 1
   focus
    intro c2
    refine wc_skip (?_)
   all_goals first
   | (refine aft_normal ?_
      refine c_ (h1 := ?_) (h2 := ?_)
      rotate_right 1
      focus
       intro c3
       refine wc_skip (?_)
      rotate_right 1
      focus
       intro c3
       refine wa_ (wc_region (w_ (a_ (h := wo_nil (e_ (h := aft_normal (wc_ret (?_))))))))
      )
  rotate_right 1
  focus
   intro c1
   refine wa_ (wc_region (w_ (a_ (h := wo_nil (e_ (h := aft_normal (wc_ret (?_))))))))
  all_goals first | refine blk_normal ?_ | refine blk_ret ?_
  all_goals first
  | refine aft_ret ?_
  | (refine aft_normal ?_
     refine wa_ (wc_region (w_ (a_ (h := wo_nil (e_ (h := aft_normal (wc_ret (?_))))))))
     )
  all_goals (refine fin_ (hr := (res_tmp rfl res_nil)) (h := ?_); (focus (first | (simp_all; done) | (simp_all <;> omega) | (simp_all <;> split <;> simp_all <;> omega))))
theorem e_size (sz : Nat) (l : List V) (h : l.length < 4611686018427387904) : oc.call 100 [.lst false sz l] = some (.int .i64 l.length, []) := by
  refine fun_s rfl cd100 rfl rfl rfl (by simp; rfl) (by simp; rfl) ?_
  refine wa_ (wc_region (w_ (a_ (h := wo_nil (e_ (h := aft_normal (wa_ (wc_region (w_ (m_ (h := w_ (le (h := w_ (a_ (h := wo_nil (e_ (h := aft_normal (?_))))))))))))))))))
  refine wc_ret (?_)
  all_goals (refine fin_ (hr := (res_tmp rfl res_nil)) (h := ?_); (focus (first | (simp_all; done) | (simp_all <;> omega) | (simp_all <;> split <;> simp_all <;> omega))))
theorem e_sizeN (sz : Nat) (l : List V) (h : l.length < 4611686018427387904) : oc.call 164 [.lst false sz l] = some (.int .i64 l.length, []) := by
  refine fun_s rfl cd164 rfl rfl rfl (by simp; rfl) (by simp; rfl) ?_
  refine wa_ (wc_region (w_ (a_ (h := wo_nil (e_ (h := aft_normal (wa_ (wc_region (w_ (m_ (h := w_ (le (h := w_ (a_ (h := wo_nil (e_ (h := aft_normal (?_))))))))))))))))))
  refine wc_ret (?_)
  all_goals (refine fin_ (hr := (res_tmp rfl res_nil)) (h := ?_); (focus (first | (simp_all; done) | (simp_all <;> omega) | (simp_all <;> split <;> simp_all <;> omega))))
theorem e_sz (sz : Nat) (l : List V) (a : Int) (h : l.length < 4611686018427387904) (ha : 0 ≤ a) (hb : a < 4611686018427387904) : oc.call 144 [.lst false sz l, .int .i64 a] = some (.int .i64 (if a < l.length then -1 else a - l.length), []) := by
  refine fun_s rfl cd144 rfl rfl rfl (by simp; rfl) (by simp; rfl) ?_
  have hw : IntKind.i64.wrap (a - l.length) = a - l.length := wrap_id (by omega) (by omega)
  refine wa_ (wc_region (w_ (a_ (h := wo_nil (e_ (h := aft_normal (wa_ (wc_region (w_ (m_ (h := w_ (m_ (h := w_ (le (h := w_ (b_ (h := w_ (a_ (h := ?_)))))))))))))))))))
  refine wo_nil (e_ (h := aft_normal (wa_ (wa_ (wc_region (w_ (m_ (h := w_ (b_ (h := wo_nil (e_ (h := aft_normal (?_)))))))))))))
  refine c_ (h1 := ?_) (h2 := ?_)
  rotate_right 1
  focus
   intro c1
   refine wc_skip (?_)
  rotate_right 1
  focus
   intro c1
   refine wa_ (wc_region (w_ (a_ (h := wo_nil (e_ (h := aft_normal (wc_ret (?_))))))))
  all_goals first
  | refine aft_ret ?_
  | (refine aft_normal ?_
     refine wa_ (wc_region (w_ (m_ (h := w_ (a_ (h := wo_nil (e_ (h := aft_normal (wc_ret (?_))))))))))
     )
  all_goals (refine fin_ (hr := (res_tmp rfl res_nil)) (h := ?_); (focus (first | (simp_all; done) | (simp_all <;> omega) | (simp_all <;> split <;> simp_all <;> omega))))
theorem e_isWeight (a : Int) : oc.call 151 [.int .i64 a] = some (.bool (inI a (-1000000000000) 1000000000000), []) := by
  refine fun_s rfl cd151 rfl rfl rfl (by simp; rfl) (by simp; rfl) ?_
  refine wa_ (wc_region (w_ (a_ (h := wo_nil (e_ (h := aft_normal (wa_ (wc_region (w_ (m_ (h := w_ (ca (hc := e_in _ _ _) (h := w_ (a_ (h := wo_nil (e_ (h := aft_normal (?_))))))))))))))))))
  refine wc_ret (?_)
  all_goals (refine fin_ (hr := (res_tmp rfl res_nil)) (h := ?_); (focus (first | (simp_all; done) | (simp_all <;> omega) | (simp_all <;> split <;> simp_all <;> omega))))
theorem e_l1Weight (a : Int) : oc.call 146 [.int .i64 a] = some (.bool (inI a (-1000000000000) 1000000000000), []) := by
  refine fun_s rfl cd146 rfl rfl rfl (by simp; rfl) (by simp; rfl) ?_
  refine wa_ (wc_region (w_ (a_ (h := wo_nil (e_ (h := aft_normal (wa_ (wc_region (w_ (m_ (h := w_ (ca (hc := e_l1In _ _ _) (h := w_ (a_ (h := wo_nil (e_ (h := aft_normal (?_))))))))))))))))))
  refine wc_ret (?_)
  all_goals (refine fin_ (hr := (res_tmp rfl res_nil)) (h := ?_); (focus (first | (simp_all; done) | (simp_all <;> omega) | (simp_all <;> split <;> simp_all <;> omega))))
end Go.Proofs.Ytgkbmiaimjpbfaa.Ev
namespace Go.Proofs.Ytgkbmiaimjpbfaa.Ev
open Go
set_option maxRecDepth 100000
set_option linter.unusedSimpArgs false
set_option linter.unusedVariables false
set_option maxHeartbeats 2000000
theorem l_eqI (a b : List Int) (z z' : Nat) (ha : a.length < 4000000000) (hab : a.length = b.length) : ∀ i : Nat, i ≤ a.length → ∀ s, normE 2 (some [0, 1, 5]) s = ⟨[(0, .lst false z (ints a)), (1, .lst false z' (ints b)), (5, .int .i64 i)], [], 2⟩ →
    oc.loop 157 4 s = some (if a.drop i = b.drop i then (.exit 0, ⟨[], [], 2⟩) else (.ret, ⟨[(4, .bool false)], [], 2⟩)) := by
  refine loop_ind (fun i => a.length - i) _ (fun i => ⟨[(0, .lst false z (ints a)), (1, .lst false z' (ints b)), (5, .int .i64 i)], [], 2⟩) _ ?_
  intro i hi ih s hs
  refine loop_s cd157 rfl rfl hs ?_
  refine wa_ (wa_ (wc_region (w_ (m_ (h := w_ (m_ (h := w_ (le (h := w_ (b_ (h := wo_nil (e_ (h := aft_normal (?_))))))))))))))
  refine c_ (h1 := ?_) (h2 := ?_)
  rotate_right 1
  focus
   intro c1
   simp at c1; have : i = a.length := (by omega); subst this
   refine wc_exit (?_)
  rotate_right 1
  focus
   intro c1
   simp at c1; have hw := wrap_succ (i := i) (by omega); obtain ⟨x, _, d1, g1⟩ := ints_cut c1; obtain ⟨y, _, d2, g2⟩ := ints_cut (l := b) (i := i) (by omega)
   refine wc_skip (?_)
  all_goals first
  | refine aft_exit ?_
  | (refine aft_normal ?_
     refine wa_ (wc_block (wa_ (wc_draw (y_ (m_ (h := ax_ (h := y_ (m_ (h := ax_ (h := y_ (x_ (h := ax_ (h := y_ (l_ (h := ax_ (h := y_ (m_ (h := ax_ (h := y_ (m_ (h := ax_ (h := y_ (x_ (h := ax_ (h := y_ (l_ (h := ax_ (h := ?_))))))))))))))))))))))))))))
     refine y_ (bE (h := ax_ (h := wo_nil (ed (h := aft_normal (?_))))))
     refine c_ (h1 := ?_) (h2 := ?_)
     rotate_right 1
     focus
      intro c2
      refine wc_skip (?_)
     rotate_right 1
     focus
      intro c2
      refine wa_ (wc_region (w_ (a_ (h := wo_nil (e_ (h := aft_normal (wc_ret (?_))))))))
     all_goals first | refine blk_normal ?_ | refine blk_ret ?_
     all_goals first
     | refine aft_ret ?_
     | (refine aft_normal ?_
        refine wc_region (w_ (m_ (h := w_ (b_ (h := w_ (a_ (h := wo_nil (e_ (h := ?_)))))))))
        )
     )
  all_goals first
  | (refine (ih (i + 1) (by omega) ?_ _ ?_).trans ?_; (focus (first | omega | (simp; done) | (simp; omega))); (focus (simp [normE, hw]; done)); (focus (simp at c2; rw [d1, d2]; simp [c2])))
  | (apply end_leaf (ex := Ext.ret) 2 (some [4]); (focus (simp [normE]; rfl)); (focus (simp at c2; rw [d1, d2]; simp [c2])))
  | (apply end_leaf (ex := (Ext.exit 0)) 2 (some [4]); (focus (simp [normE]; rfl)); (focus (rw [if_pos (by simp [hab])])))
theorem e_eqI (a b : List Int) (z z' : Nat) (ha : a.length < 4000000000) (hb : b.length < 4000000000) : oc.call 157 [.lst false z (ints a), .lst false z' (ints b)] = some (.bool (decide (a = b)), []) := by
  refine fun_s rfl cd157 rfl rfl rfl (by simp; rfl) (by simp; rfl) ?_
  refine wa_ (wc_region (w_ (a_ (h := wo_nil (e_ (h := aft_normal (wa_ (wa_ (wc_region (w_ (m_ (h := w_ (le (h := w_ (m_ (h := w_ (le (h := ?_))))))))))))))))))
  refine w_ (bE (h := wo_nil (e_ (h := aft_normal (?_)))))
  refine c_ (h1 := ?_) (h2 := ?_)
  rotate_right 1
  focus
   intro c1
   simp at c1
   refine wc_skip (?_)
  rotate_right 1
  focus
   intro c1
   simp at c1; have hne : a ≠ b := (by rintro rfl; exact c1 rfl)
   refine wa_ (wc_region (w_ (a_ (h := wo_nil (e_ (h := aft_normal (wc_ret (?_))))))))
  all_goals first
  | refine aft_ret ?_
  | (refine aft_normal ?_
     refine wa_ (wa_ (wc_region (w_ (a_ (h := wo_nil (e_ (h := aft_normal (wc_block (?_)))))))))
     refine wc_loopI (l_eqI a b z z' ha (by omega) 0 (by omega) _ (by simp [normE])) ?_ ?_
     rotate_right 1
     focus
      intro c2
      skip
     rotate_right 1
     focus
      intro c2
      skip
     all_goals first | refine blk_ret ?_ | refine blk_exit ?_
     all_goals first
     | refine aft_ret ?_
     | (refine aft_normal ?_
        refine wa_ (wc_region (w_ (a_ (h := wo_nil (e_ (h := aft_normal (wc_ret (?_))))))))
        )
     )
  all_goals (refine fin_ (hr := (res_tmp rfl res_nil)) (h := ?_); (focus (first | (simp_all; done) | (simp_all <;> omega) | (simp_all <;> split <;> simp_all <;> omega))))
theorem l_toI (a : List Int) (z : Nat) (ha : a.length < 2000000000) : ∀ x : Nat × List Int, (x.1 ≤ a.length ∧ x.2.length = a.length ∧ x.2.take x.1 = a.take x.1) → ∀ s, normE 1 (some [0, 3, 4]) s = ⟨[(0, .lst false z (ints a)), (3, .ref 1 0 a.length), (4, .int .i64 x.1)], [(1, ⟨false, false, 1, ints x.2, 0⟩)], 2⟩ →
    oc.loop 149 3 s = some (.exit 0, ⟨[(3, .ref 1 0 a.length)], [(1, ⟨false, false, 1, ints a, 0⟩)], 2⟩) := by
  refine loop_ind (σ := Nat × List Int) (fun x => a.length - x.1) _ (fun x => ⟨[(0, .lst false z (ints a)), (3, .ref 1 0 a.length), (4, .int .i64 x.1)], [(1, ⟨false, false, 1, ints x.2, 0⟩)], 2⟩) _ ?_
  rintro ⟨i, r⟩ ⟨hi, hr, ht⟩ ih s hs
  refine loop_s cd149 rfl rfl hs ?_
  refine wa_ (wa_ (wc_region (w_ (m_ (h := w_ (m_ (h := w_ (le (h := w_ (b_ (h := wo_nil (e_ (h := aft_normal (?_))))))))))))))
  refine c_ (h1 := ?_) (h2 := ?_)
  rotate_right 1
  focus
   intro c1
   simp at c1 hi hr ht; have : i = a.length := (by omega); subst this; rw [← hr] at ht; simp at ht; rw [hr] at ht; simp at ht; subst ht
   refine wc_exit (?_)
  rotate_right 1
  focus
   intro c1
   simp at c1; have hw := wrap_succ (i := i) (by omega); obtain ⟨x, hx, d1, g1⟩ := ints_cut c1; obtain ⟨y, hy, _, g2⟩ := ints_cut (l := r) (i := i) (by simp at hr; omega); simp at g2
   refine wc_skip (?_)
  all_goals first
  | refine aft_exit ?_
  | (refine aft_normal ?_
     refine wa_ (wc_block (wc_region (w_ (m_ (h := w_ (m_ (h := w_ (m_ (h := w_ (m_ (h := w_ (x_ (h := w_ (l_ (h := w_ (x_ (h := w0 (s_ (h := wo_nil (e_ (h := ?_)))))))))))))))))))))
     refine blk_normal (aft_normal (wc_region (w_ (m_ (h := w_ (b_ (h := w_ (a_ (h := wo_nil (e_ (h := ?_)))))))))))
     )
  all_goals first
  | (refine (ih ((i + 1, r.set i x)) (⟨by simp; omega, by simpa using hr, set_take ht hr hx⟩) ?_ _ ?_).trans ?_; (focus (first | omega | (simp; done) | (simp; omega))); (focus (simp [normE, hw]; done)); (focus (rfl)))
  | (apply end_leaf (ex := (Ext.exit 0)) 1 (some [3]); (focus (simp [normE]; rfl)); (focus (simp)))
theorem e_toI (a : List Int) (z : Nat) (ha : a.length < 2000000000) : oc.call 149 [.lst false z (ints a)] = some (.lst true 1 (ints a), []) := by
  refine fun_s rfl cd149 rfl rfl rfl (by simp; rfl) (by simp; rfl) ?_
  refine wa_ (wc_region (w_ (aN (h := wo_nil (e_ (h := aft_normal (wa_ (wc_region (w_ (m_ (h := w_ (le (h := w_ (mk (h := w_ (a_ (h := wo_nil (e_ (h := ?_)))))))))))))))))))
  refine aft_normal (wa_ (wa_ (wc_region (w_ (a_ (h := wo_nil (e_ (h := aft_normal (wc_block (?_))))))))))
  refine wc_loop (l_toI a z ha (0, List.replicate a.length 0) (by simp) _ (by simp [normE])) ?_
  refine blk_exit (aft_normal (wa_ (wc_region (w_ (m_ (h := w_ (a_ (h := wo_nil (e_ (h := aft_normal (wc_ret (?_))))))))))))
  all_goals (refine fin_ (hr := (res_tmp rfl res_nil)) (h := ?_); (focus (first | (simp_all; done) | (simp_all <;> omega) | (simp_all <;> split <;> simp_all <;> omega))))
def szI (c : Nat) (left : Int) : Int := if left < c then -1 else left - c
theorem e_szN (t : Bool) (sz : Nat) (d : Nd) (a : Int) (h : d.cells.length < 4611686018427387904) (ha : 0 ≤ a) (hb : a < 4000000000) : oc.call 102 [d.v false sz, .int .i64 a] = some (.int .i64 (szI d.cells.length a), []) := by
  refine fun_s rfl cd102 rfl rfl rfl (by simp; rfl) (by simp; rfl) ?_
  unfold szI
  refine wa_ (wc_region (w_ (bx (h := w_ (a_ (h := wo_nil (e_ (h := aft_normal (wa_ (wc_region (w_ (f_ (h := w_ (l_ (h := w_ (m_ (h := w_ (ca (hc := e_sz _ (ints d.cells) a (by simpa using (by omega)) ha (by omega)) (h := ?_)))))))))))))))))))
  refine w_ (a_ (h := wo_nil (e_ (h := aft_normal (wa_ (wa_ (wc_region (w_ (m_ (h := w_ (b_ (h := wo_nil (e_ (h := aft_normal (?_)))))))))))))))
  refine c_ (h1 := ?_) (h2 := ?_)
  rotate_right 1
  focus
   intro c1
   simp at c1
   refine wc_skip (?_)
  rotate_right 1
  focus
   intro c1
   simp at c1
   refine wa_ (wc_region (w_ (a_ (h := wo_nil (e_ (h := aft_normal (wc_ret (?_))))))))
  all_goals first
  | refine aft_ret ?_
  | (refine aft_normal ?_
     refine wa_ (wc_region (w_ (m_ (h := w_ (a_ (h := wo_nil (e_ (h := aft_normal (wc_ret (?_))))))))))
     )
  all_goals (refine fin_ (hr := (res_tmp rfl res_nil)) (h := ?_); (focus (first | (simp_all; done) | (simp_all <;> omega) | (simp_all <;> split <;> simp_all <;> omega))))
theorem szI_neg {c : Nat} {a : Int} (h : szI c a < 0) : szI c a = -1 := by
  unfold szI at *
  split at h
  · rw [if_pos (by assumption)]
  · omega
def szL : List Nd → Int → Int
  | [], left => left
  | d :: r, left => if szI d.cells.length left < 0 then -1 else szL r (szI d.cells.length left)
theorem szL_neg : ∀ {l : List Nd} {a : Int}, 0 ≤ a → szL l a < 0 → szL l a = -1
  | [], a, h0, h => by simp [szL] at h; omega
  | d :: r, a, h0, h => by
    unfold szL at *
    by_cases hc : szI d.cells.length a < 0
    · rw [if_pos hc]
    · rw [if_neg hc] at h ⊢
      exact szL_neg (by omega) h
theorem e_toN (sz : Nat) (d : Nd) (h : d.cells.length < 2000000000) : oc.call 109 [d.v false sz] = some (d.v true 1, []) := by
  refine fun_s rfl cd109 rfl rfl rfl (by simp; rfl) (by simp; rfl) ?_
  refine wa_ (wc_region (w_ (bx (h := w_ (al (h := wo_nil (e_ (h := aft_normal (wa_ (wc_region (w_ (al (h := wo_nil (e_ (h := aft_normal (wa_ (?_)))))))))))))))))
  refine wc_region (w_ (f_ (h := w_ (l_ (h := w_ (f_ (h := w0 (s_ (h := wo_nil (e_ (h := aft_normal (wa_ (wc_region (w_ (f_ (h := w_ (l_ (h := w_ (f_ (h := ?_))))))))))))))))))))
  refine w0 (s_ (h := wo_nil (e_ (h := aft_normal (wa_ (wc_region (w_ (f_ (h := w_ (l_ (h := w_ (f_ (h := w0 (s_ (h := wo_nil (e_ (h := aft_normal (wa_ (?_)))))))))))))))))))
  refine wc_region (w_ (f_ (h := w_ (l_ (h := w_ (f_ (h := w0 (s_ (h := wo_nil (e_ (h := aft_normal (wa_ (wc_region (w_ (f_ (h := w_ (l_ (h := w_ (f_ (h := ?_))))))))))))))))))))
  refine w0 (s_ (h := wo_nil (e_ (h := aft_normal (wa_ (wc_region (w_ (f_ (h := w_ (l_ (h := w_ (f_ (h := w0 (s_ (h := wo_nil (e_ (h := aft_normal (wa_ (?_)))))))))))))))))))
  refine wc_region (w_ (f_ (h := w_ (l_ (h := w_ (ca (hc := e_toI _ _ h) (h := w_ (f_ (h := w0 (s_ (h := wo_nil (e_ (h := aft_normal (wa_ (wc_region (w_ (l_ (h := w0 (s_ (h := ?_))))))))))))))))))))
  refine wo_nil (e_ (h := aft_normal (wc_ret (?_))))
  all_goals (refine fin_ (hr := (res_cell (tys_ok.zero _ _ rfl) rfl (by simp; rfl) (by rfl) res_nil)) (h := ?_); (focus (simp [Nd.v])))
theorem e_eqN (sz sz' : Nat) (d g : Nd) (h : d.cells.length < 2000000000) (h' : g.cells.length < 2000000000) : oc.call 113 [d.v false sz, g.v false sz'] = some (.bool (decide (d = g)), []) := by
  refine fun_s rfl cd113 rfl rfl rfl (by simp; rfl) (by simp; rfl) ?_
  refine wa_ (wc_region (w_ (bx (h := w_ (bx (h := w_ (a_ (h := wo_nil (e_ (h := aft_normal (wa_ (wa_ (wc_region (w_ (f_ (h := w_ (l_ (h := ?_))))))))))))))))))
  refine w_ (f_ (h := w_ (l_ (h := w_ (bE (h := wo_nil (e_ (h := aft_normal (?_)))))))))
  refine c_ (h1 := ?_) (h2 := ?_)
  rotate_right 1
  focus
   intro c1
   refine wc_skip (?_)
  rotate_right 1
  focus
   intro c1
   refine wa_ (wc_region (w_ (a_ (h := wo_nil (e_ (h := aft_normal (wc_ret (?_))))))))
  all_goals first
  | refine aft_ret ?_
  | (refine aft_normal ?_
     refine wa_ (wa_ (wc_region (w_ (f_ (h := w_ (l_ (h := w_ (f_ (h := w_ (l_ (h := w_ (bE (h := wo_nil (e_ (h := aft_normal (?_))))))))))))))))
     refine c_ (h1 := ?_) (h2 := ?_)
     rotate_right 1
     focus
      intro c2
      refine wc_skip (?_)
     rotate_right 1
     focus
      intro c2
      refine wa_ (wc_region (w_ (a_ (h := wo_nil (e_ (h := aft_normal (wc_ret (?_))))))))
     all_goals first
     | refine aft_ret ?_
     | (refine aft_normal ?_
        refine wa_ (wa_ (wc_region (w_ (f_ (h := w_ (l_ (h := w_ (f_ (h := w_ (l_ (h := w_ (bE (h := wo_nil (e_ (h := aft_normal (?_))))))))))))))))
        refine c_ (h1 := ?_) (h2 := ?_)
        rotate_right 1
        focus
         intro c3
         refine wc_skip (?_)
        rotate_right 1
        focus
         intro c3
         refine wa_ (wc_region (w_ (a_ (h := wo_nil (e_ (h := aft_normal (wc_ret (?_))))))))
        all_goals first
        | refine aft_ret ?_
        | (refine aft_normal ?_
           refine wa_ (wa_ (wc_region (w_ (f_ (h := w_ (l_ (h := w_ (f_ (h := w_ (l_ (h := w_ (bE (h := wo_nil (e_ (h := aft_normal (?_))))))))))))))))
           refine c_ (h1 := ?_) (h2 := ?_)
           rotate_right 1
           focus
            intro c4
            refine wc_skip (?_)
           rotate_right 1
           focus
            intro c4
            refine wa_ (wc_region (w_ (a_ (h := wo_nil (e_ (h := aft_normal (wc_ret (?_))))))))
           all_goals first
           | refine aft_ret ?_
           | (refine aft_normal ?_
              refine wa_ (wa_ (wc_region (w_ (f_ (h := w_ (l_ (h := w_ (f_ (h := w_ (l_ (h := w_ (bE (h := wo_nil (e_ (h := aft_normal (?_))))))))))))))))
              refine c_ (h1 := ?_) (h2 := ?_)
              rotate_right 1
              focus
               intro c5
               refine wc_skip (?_)
              rotate_right 1
              focus
               intro c5
               refine wa_ (wc_region (w_ (a_ (h := wo_nil (e_ (h := aft_normal (wc_ret (?_))))))))
              all_goals first
              | refine aft_ret ?_
              | (refine aft_normal ?_
                 refine wa_ (wa_ (wc_region (w_ (f_ (h := w_ (l_ (h := w_ (f_ (h := w_ (l_ (h := w_ (bE (h := wo_nil (e_ (h := aft_normal (?_))))))))))))))))
                 refine c_ (h1 := ?_) (h2 := ?_)
                 rotate_right 1
                 focus
                  intro c6
                  refine wc_skip (?_)
                 rotate_right 1
                 focus
                  intro c6
                  refine wa_ (wc_region (w_ (a_ (h := wo_nil (e_ (h := aft_normal (wc_ret (?_))))))))
                 all_goals first
                 | refine aft_ret ?_
                 | (refine aft_normal ?_
                    refine wa_ (wa_ (wc_region (w_ (f_ (h := w_ (l_ (h := w_ (f_ (h := w_ (l_ (h := w_ (ca (hc := e_eqI _ _ _ _ (by omega) (by omega)) (h := w_ (u_ (h := wo_nil (e_ (h := aft_normal (?_))))))))))))))))))
                    refine c_ (h1 := ?_) (h2 := ?_)
                    rotate_right 1
                    focus
                     intro c7
                     refine wc_skip (?_)
                    rotate_right 1
                    focus
                     intro c7
                     refine wa_ (wc_region (w_ (a_ (h := wo_nil (e_ (h := aft_normal (wc_ret (?_))))))))
                    all_goals first
                    | refine aft_ret ?_
                    | (refine aft_normal ?_
                       refine wa_ (wc_region (w_ (a_ (h := wo_nil (e_ (h := aft_normal (wc_ret (?_))))))))
                       )
                    )
                 )
              )
           )
        )
     )
  all_goals (refine fin_ (hr := (res_tmp rfl res_nil)) (h := ?_); (focus (simp_all [Nd.eq_iff])))
def okN (l : List Nd) : Prop := ∀ d ∈ l, d.cells.length < 2000000
def okB (l : List Nd) : Prop := l.length ≤ 140737488351232 ∧ ∀ d ∈ l, d.cells.length ≤ 140737488351232
theorem szI_le {c : Nat} {a : Int} (h : 0 ≤ szI c a) : (c : Int) ≤ a := by
  unfold szI at h
  split at h <;> omega
theorem szL_ok : ∀ {l : List Nd} {a : Int}, 0 ≤ szL l a → ∀ d ∈ l, (d.cells.length : Int) ≤ a
  | [], a, h, d, hd => by cases hd
  | x :: r, a, h, d, hd => by
    unfold szL at h
    by_cases hc : szI x.cells.length a < 0
    · rw [if_pos hc] at h; omega
    · rw [if_neg hc] at h
      have h1 := szI_le (c := x.cells.length) (a := a) (by omega)
      rcases List.mem_cons.1 hd with rfl | hd
      · exact h1
      · have := szL_ok h d hd
        unfold szI at this
        split at this <;> omega
theorem l_szN (l : List Nd) (sz : Nat) (ho : okB l) : ∀ x : Nat × Int, (x.1 ≤ l.length ∧ 0 ≤ x.2 ∧ x.2 < 2000000) → ∀ s, normE 2 (some [0, 1, 5]) s = ⟨[(0, .lst false 0 (nds false sz l)), (1, .int .i64 x.2), (5, .int .i64 x.1)], [], 2⟩ →
    oc.loop 38 5 s = some (if 0 ≤ szL (l.drop x.1) x.2 then (.exit 0, ⟨[(1, .int .i64 (szL (l.drop x.1) x.2))], [], 2⟩) else (.ret, ⟨[(1, .int .i64 (-1)), (4, .int .i64 (-1))], [], 2⟩)) := by
  refine loop_ind (σ := Nat × Int) (fun x => l.length - x.1) _ (fun x => ⟨[(0, .lst false 0 (nds false sz l)), (1, .int .i64 x.2), (5, .int .i64 x.1)], [], 2⟩) _ ?_
  rintro ⟨i, a⟩ ⟨hi, ha, hb⟩ ih s hs
  have hl := ho.1
  refine loop_s cd38 rfl rfl hs ?_
  refine wa_ (wa_ (wc_region (w_ (m_ (h := w_ (m_ (h := w_ (le (h := w_ (b_ (h := wo_nil (e_ (h := aft_normal (?_))))))))))))))
  refine c_ (h1 := ?_) (h2 := ?_)
  rotate_right 1
  focus
   intro c1
   simp at c1 hi ha; have : i = l.length := (by omega); subst this
   refine wc_exit (?_)
  rotate_right 1
  focus
   intro c1
   simp at c1; have hw := wrap_succ (i := i) (by simp at hi; omega); obtain ⟨d, hx, d1, g1⟩ := nds_cut (t := false) (s := sz) c1; have hd := ho.2 d (List.mem_of_getElem? hx)
   refine wc_skip (?_)
  all_goals first
  | refine aft_exit ?_
  | (refine aft_normal ?_
     refine wa_ (wc_block (wa_ (wc_region (w_ (m_ (h := w_ (m_ (h := w_ (x_ (h := w_ (l_ (h := w_ (m_ (h := w_ (ca (hc := e_szN false 0 d a (by omega) ha (by simp at hb; omega)) (h := w_ (a_ (h := wo_nil (e_ (h := ?_))))))))))))))))))))
     refine aft_normal (wa_ (wc_region (w_ (m_ (h := w_ (b_ (h := wo_nil (e_ (h := aft_normal (?_))))))))))
     refine c_ (h1 := ?_) (h2 := ?_)
     rotate_right 1
     focus
      intro c2
      refine wc_skip (?_)
     rotate_right 1
     focus
      intro c2
      refine wa_ (wc_region (w_ (a_ (h := wo_nil (e_ (h := aft_normal (wc_ret (?_))))))))
     all_goals first | refine blk_normal ?_ | refine blk_ret ?_
     all_goals first
     | refine aft_ret ?_
     | (refine aft_normal ?_
        refine wc_region (w_ (m_ (h := w_ (b_ (h := w_ (a_ (h := wo_nil (e_ (h := ?_)))))))))
        )
     )
  all_goals first
  | (refine (ih ((i + 1, szI d.cells.length a)) (⟨by simp; omega, by simp at c2; exact c2, by unfold szI; split <;> simp at hb ⊢ <;> omega⟩) ?_ _ ?_).trans ?_; (focus (first | omega | (simp; done) | (simp; omega))); (focus (simp [normE, hw]; done)); (focus (simp at c2; simp only [d1, szL, if_neg (Int.not_lt.mpr c2)])))
  | (apply end_leaf (ex := Ext.ret) 2 (some [1, 4]); (focus (simp [normE]; rfl)); (focus (simp at c2; have := szI_neg c2; simp [d1, szL, this])))
  | (apply end_leaf (ex := (Ext.exit 0)) 2 (some [1, 4]); (focus (simp [normE]; rfl)); (focus (simp [szL]; omega)))
def szP (l : List Nd) (a : Int) : Int := if a < l.length then -1 else szL l (a - l.length)
theorem szP_ok {l : List Nd} {a : Int} (ha : a < 2000000) (h : 0 ≤ szP l a) : l.length < 2000000 ∧ okN l ∧ szP l a ≤ a := by
  unfold szP at *
  split at h
  · omega
  · rename_i hl
    rw [if_neg hl]
    have h2 : ∀ (l : List Nd) (a : Int), 0 ≤ a → szL l a ≤ a := by
      intro l
      induction l with
      | nil => intro a ha; simp [szL]
      | cons x r ih =>
        intro a ha
        unfold szL
        split
        · omega
        · have h3 : szI x.cells.length a ≤ a := by unfold szI; split <;> omega
          have := ih (szI x.cells.length a) (by omega)
          omega
    have := h2 l (a - l.length) (by omega)
    exact ⟨by omega, fun d hd => by have := szL_ok h d hd; omega, by omega⟩
theorem e_szNS (l : List Nd) (sz : Nat) (a : Int) (ho : okB l) (ha : 0 ≤ a) (hb : a < 2000000) : oc.call 38 [.lst false 0 (nds false sz l), .int .i64 a] = some (.int .i64 (szP l a), []) := by
  refine fun_s rfl cd38 rfl rfl rfl (by simp; rfl) (by simp; rfl) ?_
  unfold szP
  have hl := ho.1
  have hw : IntKind.i64.wrap (a - l.length) = a - l.length := wrap_id (by omega) (by omega)
  refine wa_ (wc_region (w_ (a_ (h := wo_nil (e_ (h := aft_normal (wa_ (wc_region (w_ (m_ (h := w_ (m_ (h := w_ (le (h := w_ (b_ (h := w_ (a_ (h := ?_)))))))))))))))))))
  refine wo_nil (e_ (h := aft_normal (wa_ (wa_ (wc_region (w_ (m_ (h := w_ (b_ (h := wo_nil (e_ (h := aft_normal (?_)))))))))))))
  refine c_ (h1 := ?_) (h2 := ?_)
  rotate_right 1
  focus
   intro c1
   simp [hw] at c1
   refine wc_skip (?_)
  rotate_right 1
  focus
   intro c1
   simp at c1
   refine wa_ (wc_region (w_ (a_ (h := wo_nil (e_ (h := aft_normal (wc_ret (?_))))))))
  all_goals first
  | refine aft_ret ?_
  | (refine aft_normal ?_
     refine wa_ (wa_ (wc_region (w_ (a_ (h := wo_nil (e_ (h := aft_normal (wc_block (?_)))))))))
     refine wc_loopI (l_szN l sz ho (0, a - l.length) ⟨by simp, by simp; omega, by simp; omega⟩ _ (by simp [normE, hw])) ?_ ?_
     rotate_right 1
     focus
      intro c2
      skip
     rotate_right 1
     focus
      intro c2
      skip
     all_goals first | refine blk_ret ?_ | refine blk_exit ?_
     all_goals first
     | refine aft_ret ?_
     | (refine aft_normal ?_
        refine wa_ (wc_region (w_ (m_ (h := w_ (a_ (h := wo_nil (e_ (h := aft_normal (wc_ret (?_))))))))))
        )
     )
  all_goals (refine fin_ (hr := (res_tmp rfl res_nil)) (h := ?_); (focus (first | (simp_all; done) | (have h3 := szL_neg (l := l) (a := a - l.length) (by omega) (by simpa using c2); simp_all; done) | (simp_all; omega))))
theorem l_toN (l : List Nd) (sz : Nat) (hl : l.length < 2000000) (ho : okN l) : ∀ x : Nat × List Nd, (x.1 ≤ l.length ∧ x.2.length = l.length ∧ x.2.take x.1 = l.take x.1) → ∀ s, normE 1 (some [0, 3, 4]) s = ⟨[(0, .lst false 0 (nds false sz l)), (3, .ref 1 0 l.length), (4, .int .i64 x.1)], [(1, ⟨false, false, 7, nds true 1 x.2, 0⟩)], 2⟩ →
    oc.loop 41 3 s = some (.exit 0, ⟨[(3, .ref 1 0 l.length)], [(1, ⟨false, false, 7, nds true 1 l, 0⟩)], 2⟩) := by
  refine loop_ind (σ := Nat × List Nd) (fun x => l.length - x.1) _ (fun x => ⟨[(0, .lst false 0 (nds false sz l)), (3, .ref 1 0 l.length), (4, .int .i64 x.1)], [(1, ⟨false, false, 7, nds true 1 x.2, 0⟩)], 2⟩) _ ?_
  rintro ⟨i, r⟩ ⟨hi, hr, ht⟩ ih s hs
  refine loop_s cd41 rfl rfl hs ?_
  refine wa_ (wa_ (wc_region (w_ (m_ (h := w_ (m_ (h := w_ (le (h := w_ (b_ (h := wo_nil (e_ (h := aft_normal (?_))))))))))))))
  refine c_ (h1 := ?_) (h2 := ?_)
  rotate_right 1
  focus
   intro c1
   simp at c1 hi hr ht; have : i = l.length := (by omega); subst this; rw [← hr] at ht; simp at ht; rw [hr] at ht; simp at ht; subst ht
   refine wc_exit (?_)
  rotate_right 1
  focus
   intro c1
   simp at c1; have hw := wrap_succ (i := i) (by simp at hi; omega); obtain ⟨d, hx, d1, g1⟩ := nds_cut (t := false) (s := sz) c1; have hd := ho d (List.mem_of_getElem? hx); obtain ⟨y, hy, _, g2⟩ := nds_cut (t := true) (s := 1) (l := r) (i := i) (by simp at hr; omega); simp at g2
   refine wc_skip (?_)
  all_goals first
  | refine aft_exit ?_
  | (refine aft_normal ?_
     refine wa_ (wc_block (wc_region (w_ (m_ (h := w_ (m_ (h := w_ (m_ (h := w_ (m_ (h := w_ (x_ (h := w_ (l_ (h := w_ (ca (hc := e_toN 0 d (by omega)) (h := w_ (x_ (h := w0 (s_ (h := ?_)))))))))))))))))))))
     refine wo_nil (e_ (h := blk_normal (aft_normal (wc_region (w_ (m_ (h := w_ (b_ (h := w_ (a_ (h := wo_nil (e_ (h := ?_)))))))))))))
     )
  all_goals first
  | (refine (ih ((i + 1, r.set i d)) (⟨by simp; omega, by simpa using hr, set_take ht hr hx⟩) ?_ _ ?_).trans ?_; (focus (first | omega | (simp; done) | (simp; omega))); (focus (simp [normE, hw]; done)); (focus (rfl)))
  | (apply end_leaf (ex := (Ext.exit 0)) 1 (some [3]); (focus (simp [normE]; rfl)); (focus (simp)))
theorem e_toNS (l : List Nd) (sz : Nat) (hl : l.length < 2000000) (ho : okN l) : oc.call 41 [.lst false 0 (nds false sz l)] = some (.lst true 7 (nds true 1 l), []) := by
  refine fun_s rfl cd41 rfl rfl rfl (by simp; rfl) (by simp; rfl) ?_
  refine wa_ (wc_region (w_ (aN (h := wo_nil (e_ (h := aft_normal (wa_ (wc_region (w_ (m_ (h := w_ (le (h := w_ (mk (h := w_ (a_ (h := wo_nil (e_ (h := ?_)))))))))))))))))))
  refine aft_normal (wa_ (wa_ (wc_region (w_ (a_ (h := wo_nil (e_ (h := aft_normal (wc_block (?_))))))))))
  refine wc_loop (l_toN l sz hl ho (0, List.replicate l.length ⟨0, 0, 0, 0, 0, 0, []⟩) (by simp) _ (by simp [normE, nds_zero])) ?_
  refine blk_exit (aft_normal (wa_ (wc_region (w_ (m_ (h := w_ (a_ (h := wo_nil (e_ (h := aft_normal (wc_ret (?_))))))))))))
  all_goals (refine fin_ (hr := (res_tmp rfl res_nil)) (h := ?_); (focus (first | (simp_all; done) | (simp_all <;> omega) | (simp_all <;> split <;> simp_all <;> omega))))
theorem l_eqNS (a b : List Nd) (z z' : Nat) (ha : a.length < 2000000) (hab : a.length = b.length) (oa : okN a) (ob : okN b) : ∀ i : Nat, i ≤ a.length → ∀ s, normE 2 (some [0, 1, 5]) s = ⟨[(0, .lst false 0 (nds false z a)), (1, .lst false 0 (nds false z' b)), (5, .int .i64 i)], [], 2⟩ →
    oc.loop 44 4 s = some (if a.drop i = b.drop i then (.exit 0, ⟨[], [], 2⟩) else (.ret, ⟨[(4, .bool false)], [], 2⟩)) := by
  refine loop_ind (fun i => a.length - i) _ (fun i => ⟨[(0, .lst false 0 (nds false z a)), (1, .lst false 0 (nds false z' b)), (5, .int .i64 i)], [], 2⟩) _ ?_
  intro i hi ih s hs
  refine loop_s cd44 rfl rfl hs ?_
  refine wa_ (wa_ (wc_region (w_ (m_ (h := w_ (m_ (h := w_ (le (h := w_ (b_ (h := wo_nil (e_ (h := aft_normal (?_))))))))))))))
  refine c_ (h1 := ?_) (h2 := ?_)
  rotate_right 1
  focus
   intro c1
   simp at c1; have : i = a.length := (by omega); subst this
   refine wc_exit (?_)
  rotate_right 1
  focus
   intro c1
   simp at c1; have hw := wrap_succ (i := i) (by omega); obtain ⟨x, hx, d1, g1⟩ := nds_cut (t := false) (s := z) c1; obtain ⟨y, hy, d2, g2⟩ := nds_cut (t := false) (s := z') (l := b) (i := i) (by omega); have h1 := oa x (List.mem_of_getElem? hx); have h2 := ob y (List.mem_of_getElem? hy)
   refine wc_skip (?_)
  all_goals first
  | refine aft_exit ?_
  | (refine aft_normal ?_
     refine wa_ (wc_block (wa_ (wc_draw (y_ (m_ (h := ax_ (h := y_ (m_ (h := ax_ (h := y_ (x_ (h := ax_ (h := y_ (l_ (h := ax_ (h := y_ (m_ (h := ax_ (h := y_ (m_ (h := ax_ (h := y_ (x_ (h := ax_ (h := y_ (l_ (h := ax_ (h := ?_))))))))))))))))))))))))))))
     refine y_ (ca (hc := e_eqN 0 0 x y (by omega) (by omega)) (h := ax_ (h := y_ (u_ (h := ax_ (h := wo_nil (ed (h := aft_normal (?_)))))))))
     refine c_ (h1 := ?_) (h2 := ?_)
     rotate_right 1
     focus
      intro c2
      refine wc_skip (?_)
     rotate_right 1
     focus
      intro c2
      refine wa_ (wc_region (w_ (a_ (h := wo_nil (e_ (h := aft_normal (wc_ret (?_))))))))
     all_goals first | refine blk_normal ?_ | refine blk_ret ?_
     all_goals first
     | refine aft_ret ?_
     | (refine aft_normal ?_
        refine wc_region (w_ (m_ (h := w_ (b_ (h := w_ (a_ (h := wo_nil (e_ (h := ?_)))))))))
        )
     )
  all_goals first
  | (refine (ih (i + 1) (by omega) ?_ _ ?_).trans ?_; (focus (first | omega | (simp; done) | (simp; omega))); (focus (simp [normE, hw]; done)); (focus (simp at c2; rw [d1, d2]; simp [c2])))
  | (apply end_leaf (ex := Ext.ret) 2 (some [4]); (focus (simp [normE]; rfl)); (focus (simp at c2; rw [d1, d2]; simp [c2])))
  | (apply end_leaf (ex := (Ext.exit 0)) 2 (some [4]); (focus (simp [normE]; rfl)); (focus (rw [if_pos (by simp [hab])])))
theorem e_eqNS (a b : List Nd) (z z' : Nat) (ha : a.length < 2000000) (hb : b.length < 2000000) (oa : okN a) (ob : okN b) : oc.call 44 [.lst false 0 (nds false z a), .lst false 0 (nds false z' b)] = some (.bool (decide (a = b)), []) := by
  refine fun_s rfl cd44 rfl rfl rfl (by simp; rfl) (by simp; rfl) ?_
  refine wa_ (wc_region (w_ (a_ (h := wo_nil (e_ (h := aft_normal (wa_ (wa_ (wc_region (w_ (m_ (h := w_ (le (h := w_ (m_ (h := w_ (le (h := ?_))))))))))))))))))
  refine w_ (bE (h := wo_nil (e_ (h := aft_normal (?_)))))
  refine c_ (h1 := ?_) (h2 := ?_)
  rotate_right 1
  focus
   intro c1
   simp at c1
   refine wc_skip (?_)
  rotate_right 1
  focus
   intro c1
   simp at c1; have hne : a ≠ b := (by rintro rfl; exact c1 rfl)
   refine wa_ (wc_region (w_ (a_ (h := wo_nil (e_ (h := aft_normal (wc_ret (?_))))))))
  all_goals first
  | refine aft_ret ?_
  | (refine aft_normal ?_
     refine wa_ (wa_ (wc_region (w_ (a_ (h := wo_nil (e_ (h := aft_normal (wc_block (?_)))))))))
     refine wc_loopI (l_eqNS a b z z' ha (by omega) oa ob 0 (by omega) _ (by simp [normE])) ?_ ?_
     rotate_right 1
     focus
      intro c2
      skip
     rotate_right 1
     focus
      intro c2
      skip
     all_goals first | refine blk_ret ?_ | refine blk_exit ?_
     all_goals first
     | refine aft_ret ?_
     | (refine aft_normal ?_
        refine wa_ (wc_region (w_ (a_ (h := wo_nil (e_ (h := aft_normal (wc_ret (?_))))))))
        )
     )
  all_goals (refine fin_ (hr := (res_tmp rfl res_nil)) (h := ?_); (focus (first | (simp_all; done) | (simp_all <;> omega) | (simp_all <;> split <;> simp_all <;> omega))))
end Go.Proofs.Ytgkbmiaimjpbfaa.Ev
namespace Go.Proofs.Ytgkbmiaimjpbfaa.Ev
open Go
set_option maxRecDepth 100000
set_option linter.unusedSimpArgs false
set_option linter.unusedVariables false
set_option maxHeartbeats 2000000
def lz (t : Bool) (n : Nat) : Nat := match t with | true => n | false => 0
@[simp] theorem lz_t (n : Nat) : lz true n = n := rfl
@[simp] theorem lz_f (n : Nat) : lz false n = 0 := rfl
theorem lst_share (t : Bool) (s : Nat) (xs : List V) : (V.lst t s xs).share = .lst false 0 (V.shareL xs) := by cases t <;> rfl
theorem lst_mention (t : Bool) (s : Nat) (xs : List V) : (V.lst t s xs).mention = [] := by cases t <;> rfl
structure Ct where
  pl : Int
  ep : Int
  n : Int
  deriving DecidableEq
theorem Ct.eq_iff {d g : Ct} : d = g ↔ d.pl = g.pl ∧ d.ep = g.ep ∧ d.n = g.n := by
  cases d; cases g; simp
def Ct.v (x : Ct) : V := .agg [.int .i64 x.pl, .int .i64 x.ep, .int .i64 x.n]
def cts (l : List Ct) : List V := l.map (Ct.v)
@[simp] theorem cts_len (l : List Ct) : (cts l).length = l.length := by simp [cts]
@[simp] theorem cts_nil : cts [] = [] := rfl
@[simp] theorem cts_cons (x : Ct) (l : List Ct) : cts (x :: l) = x.v :: cts l := rfl
@[simp] theorem cts_join (l m : List Ct) : cts l ++ cts m = cts (l ++ m) := by simp [cts]
@[simp] theorem cts_snoc (l : List Ct) (x : Ct) : cts l ++ [x.v] = cts (l ++ [x]) := by simp [cts]
@[simp] theorem cts_snoc2 (l : List Ct) (a : Int) (b : Int) (c : Int) : cts l ++ [V.agg [.int .i64 a, .int .i64 b, .int .i64 c]] = cts (l ++ [⟨a, b, c⟩]) := by simp [cts, Ct.v]
@[simp] theorem cts_set2 (l : List Ct) (j : Nat) (a : Int) (b : Int) (c : Int) : (cts l).set j (V.agg [.int .i64 a, .int .i64 b, .int .i64 c]) = cts (l.set j ⟨a, b, c⟩) := by simp [cts, Ct.v, List.map_set]
@[simp] theorem cts_set (l : List Ct) (i : Nat) (x : Ct) : (cts l).set i (x.v) = cts (l.set i x) := by simp [cts, List.map_set]
@[simp] theorem cts_take (n : Nat) (l : List Ct) : (cts l).take n = cts (l.take n) := by simp [cts, List.map_take]
@[simp] theorem cts_drop (n : Nat) (l : List Ct) : (cts l).drop n = cts (l.drop n) := by simp [cts, List.map_drop]
@[simp] theorem Ct.cells_v (x : Ct) : (x.v).cells = 3 := rfl
@[simp] theorem Ct.mention (x : Ct) : V.mention (x.v) = [] := by simp [Ct.v, V.mention, V.mentionL, lst_mention]
@[simp] theorem Ct.share (x : Ct) : (x.v).share = x.v := by simp [Ct.v, V.share, V.shareL, lst_share]
@[simp] theorem cts_shareL (l : List Ct) : V.shareL (cts l) = cts l := by
  induction l with
  | nil => rfl
  | cons x l ih => simp [V.shareL, ih]
@[simp] theorem Ct.snap (x : Ct) (q : St) : V.snap q (x.v) = some (x.v) := by simp [Ct.v, V.snap, V.snapL, mp]
@[simp] theorem Ct.snapA (x : Ct) (q : St) : V.snapA q (x.v) = some (x.v) := Ct.snap x q
@[simp] theorem Ct.snapP (x : Ct) (q : St) : V.snapP q (x.v) = some (x.v) := Ct.snap x q
@[simp] theorem Ct.accM (x : Ct) : V.accM (x.v) = [] := by simp [Ct.v, V.accM, V.accML]
@[simp] theorem Ct.accF (x : Ct) : V.accF (x.v) = [] := by simp [Ct.v, V.accF, V.accFL]
@[simp] theorem Ct.ren (x : Ct) (ρ : Nat → Option Nat) (vr : Nat → Nat) : V.ren ρ vr (x.v) = x.v := by simp [Ct.v, V.ren, V.renL]
@[simp] theorem Ct.bA (i : Nat) (x : Ct) (r : List V) : bindArgs i (x.v :: r) = ((i, x.v) :: (bindArgs (i + 1) r).1, (bindArgs (i + 1) r).2) := rfl
@[simp] theorem Ct.lodF (x : Ct) (o i ver : Nat) (fs : List Nat) : V.lod o i ver fs (x.v) = x.v := by simp [Ct.v, V.lod, V.lodL]
@[simp] theorem Ct.fz (x : Ct) (s : St) : V.fz x.v s = some (x.v, s) := by simp [Ct.v, V.fz, V.fzL, mp]
@[simp] theorem Ct.fzI (x : Ct) (s : St) : V.fzI x.v s = some (x.v, s) := by simp [Ct.v, V.fz, V.fzI, V.fzIL, mp]
@[simp] theorem Ct.scal (x : Ct) : V.scal (x.v) = true := by simp [Ct.v, V.scal, V.scalL]
@[simp] theorem Ct.isTup (x : Ct) : (x.v).isTup = false := rfl
@[simp] theorem Ct.tidyT (x : Ct) : V.tidy (x.v) = true := by simp [Ct.v, V.tidy, V.tidyL]
@[simp] theorem cts_tidyT (l : List Ct) : V.tidyL (cts l) = true := by
  induction l with
  | nil => rfl
  | cons x l ih => simp [V.tidyL, ih]
@[simp] theorem Ct.thaw (x : Ct) (id : Nat) : V.thaw id x.v = (x.v, [], id) := by simp [Ct.v, V.thaw, V.thawL]
structure Et where
  row : List Int
  w : Int
  deriving DecidableEq
theorem Et.eq_iff {d g : Et} : d = g ↔ d.row = g.row ∧ d.w = g.w := by
  cases d; cases g; simp
def Et.v (t : Bool) (x : Et) : V := .agg [.lst t (lz t 1) (ints x.row), .int .i64 x.w]
def ets (t : Bool) (l : List Et) : List V := l.map (Et.v t)
@[simp] theorem ets_len (t : Bool) (l : List Et) : (ets t l).length = l.length := by simp [ets]
@[simp] theorem ets_nil (t : Bool) : ets t [] = [] := rfl
@[simp] theorem ets_cons (t : Bool) (x : Et) (l : List Et) : ets t (x :: l) = x.v t :: ets t l := rfl
@[simp] theorem ets_join (t : Bool) (l m : List Et) : ets t l ++ ets t m = ets t (l ++ m) := by simp [ets]
@[simp] theorem ets_snoc (t : Bool) (l : List Et) (x : Et) : ets t l ++ [x.v t] = ets t (l ++ [x]) := by simp [ets]
@[simp] theorem ets_snocT2 (l : List Et) (a : List Int) (b : Int) : ets true l ++ [V.agg [.lst true 1 (ints a), .int .i64 b]] = ets true (l ++ [⟨a, b⟩]) := by simp [ets, Et.v]
@[simp] theorem ets_setT2 (l : List Et) (j : Nat) (a : List Int) (b : Int) : (ets true l).set j (V.agg [.lst true 1 (ints a), .int .i64 b]) = ets true (l.set j ⟨a, b⟩) := by simp [ets, Et.v, List.map_set]
theorem ets_zero (m : Nat) : List.replicate m (V.agg [.lst true 1 [], .int .i64 0]) = ets true (List.replicate m ⟨[], 0⟩) := by simp [ets, Et.v]
@[simp] theorem ets_snocF2 (l : List Et) (a : List Int) (b : Int) : ets false l ++ [V.agg [.lst false 0 (ints a), .int .i64 b]] = ets false (l ++ [⟨a, b⟩]) := by simp [ets, Et.v]
@[simp] theorem ets_setF2 (l : List Et) (j : Nat) (a : List Int) (b : Int) : (ets false l).set j (V.agg [.lst false 0 (ints a), .int .i64 b]) = ets false (l.set j ⟨a, b⟩) := by simp [ets, Et.v, List.map_set]
@[simp] theorem ets_set (t : Bool) (l : List Et) (i : Nat) (x : Et) : (ets t l).set i (x.v t) = ets t (l.set i x) := by simp [ets, List.map_set]
theorem ets_get {t : Bool} {l : List Et} {i : Nat} {x : Et} (h : l[i]? = some x) : (ets t l)[i]? = some (x.v t) := by simp [ets, h]
theorem ets_at {t : Bool} {l : List Et} {i : Nat} (h : i < l.length) : (ets t l)[(i : Int).toNat]? = some (l[i].v t) := ets_get (by simp [h])
theorem ets_cut {t : Bool} {l : List Et} {i : Nat} (h : i < l.length) : ∃ x, l[i]? = some x ∧ l.drop i = x :: l.drop (i + 1) ∧ (ets t l)[(i : Int).toNat]? = some (x.v t) :=
  ⟨l[i], by simp [h], List.drop_eq_getElem_cons h, ets_at h⟩
@[simp] theorem ets_take (t : Bool) (n : Nat) (l : List Et) : (ets t l).take n = ets t (l.take n) := by simp [ets, List.map_take]
@[simp] theorem ets_drop (t : Bool) (n : Nat) (l : List Et) : (ets t l).drop n = ets t (l.drop n) := by simp [ets, List.map_drop]
@[simp] theorem Et.cells_v (t : Bool) (x : Et) : (x.v t).cells = 2 := rfl
@[simp] theorem Et.mention (t : Bool) (x : Et) : V.mention (x.v t) = [] := by simp [Et.v, V.mention, V.mentionL, lst_mention]
@[simp] theorem Et.share (t : Bool) (x : Et) : (x.v t).share = x.v false := by simp [Et.v, V.share, V.shareL, lst_share, ints_share]
@[simp] theorem ets_shareL (t : Bool) (l : List Et) : V.shareL (ets t l) = ets false l := by
  induction l with
  | nil => rfl
  | cons x l ih => simp [V.shareL, ih]
@[simp] theorem Et.snap (t : Bool) (x : Et) (q : St) : V.snap q (x.v t) = some (x.v false) := by simp [Et.v, V.snap, V.snapL, mp, ints_share]
@[simp] theorem Et.snapA (t : Bool) (x : Et) (q : St) : V.snapA q (x.v t) = some (x.v false) := Et.snap t x q
@[simp] theorem Et.snapP (t : Bool) (x : Et) (q : St) : V.snapP q (x.v t) = some (x.v false) := Et.snap t x q
@[simp] theorem Et.accM (t : Bool) (x : Et) : V.accM (x.v t) = [] := by simp [Et.v, V.accM, V.accML]
@[simp] theorem Et.accF (t : Bool) (x : Et) : V.accF (x.v t) = [] := by simp [Et.v, V.accF, V.accFL]
@[simp] theorem Et.ren (t : Bool) (x : Et) (ρ : Nat → Option Nat) (vr : Nat → Nat) : V.ren ρ vr (x.v t) = x.v t := by simp [Et.v, V.ren, V.renL]
@[simp] theorem Et.bA (i : Nat) (t : Bool) (x : Et) (r : List V) : bindArgs i (x.v t :: r) = ((i, x.v t) :: (bindArgs (i + 1) r).1, (bindArgs (i + 1) r).2) := rfl
@[simp] theorem Et.lodF (x : Et) (o i ver : Nat) (fs : List Nat) : V.lod o i ver fs (x.v false) = x.v false := by simp [Et.v, V.lod, V.lodL]
@[simp] theorem Et.fzF (x : Et) (s : St) : V.fz (x.v false) s = some (x.v false, s) := by simp [Et.v, V.fz, V.fzL, mp]
@[simp] theorem Et.fzI (t : Bool) (x : Et) (s : St) : V.fzI (x.v t) s = some (x.v t, s) := by cases t <;> simp [Et.v, V.fz, V.fzI, V.fzIL, mp]
@[simp] theorem Et.scal (t : Bool) (x : Et) : V.scal (x.v t) = false := by simp [Et.v, V.scal, V.scalL]
@[simp] theorem Et.isTup (t : Bool) (x : Et) : (x.v t).isTup = false := rfl
@[simp] theorem Et.tidyT (x : Et) : V.tidy (x.v true) = true := by simp [Et.v, V.tidy, V.tidyL, ints_tidy]
@[simp] theorem ets_tidyT (l : List Et) : V.tidyL (ets true l) = true := by
  induction l with
  | nil => rfl
  | cons x l ih => simp [V.tidyL, ih]
@[simp] theorem Et.thawF (x : Et) (id : Nat) : V.thaw id (x.v false) = (x.v false, [], id) := by simp [Et.v, V.thaw, V.thawL]
@[simp] theorem Et.thawT (x : Et) (id : Nat) : V.thaw id (x.v true) = (.agg [.ref (id) 0 x.row.length, .int .i64 x.w], [(id, ⟨false, false, 1, ints x.row, 0⟩)], id + 1) := by simp [Et.v, V.thaw, V.thawL]
structure Fr where
  kind : Int
  node : Int
  side : Int
  ep : Int
  set : List Et
  news : List Ct
  deriving DecidableEq
theorem Fr.eq_iff {d g : Fr} : d = g ↔ d.kind = g.kind ∧ d.node = g.node ∧ d.side = g.side ∧ d.ep = g.ep ∧ d.set = g.set ∧ d.news = g.news := by
  cases d; cases g; simp
def Fr.v (t : Bool) (x : Fr) : V := .agg [.int .i64 x.kind, .int .i64 x.node, .int .i64 x.side, .int .i64 x.ep, .lst t (lz t 2) (ets t x.set), .lst t (lz t 3) (cts x.news)]
def frs (t : Bool) (l : List Fr) : List V := l.map (Fr.v t)
@[simp] theorem frs_len (t : Bool) (l : List Fr) : (frs t l).length = l.length := by simp [frs]
@[simp] theorem frs_nil (t : Bool) : frs t [] = [] := rfl
@[simp] theorem frs_cons (t : Bool) (x : Fr) (l : List Fr) : frs t (x :: l) = x.v t :: frs t l := rfl
@[simp] theorem frs_join (t : Bool) (l m : List Fr) : frs t l ++ frs t m = frs t (l ++ m) := by simp [frs]
@[simp] theorem frs_snoc (t : Bool) (l : List Fr) (x : Fr) : frs t l ++ [x.v t] = frs t (l ++ [x]) := by simp [frs]
@[simp] theorem frs_snocT2 (l : List Fr) (a : Int) (b : Int) (c : Int) (d : Int) (e : List Et) (f : List Ct) : frs true l ++ [V.agg [.int .i64 a, .int .i64 b, .int .i64 c, .int .i64 d, .lst true 2 (ets true e), .lst true 3 (cts f)]] = frs true (l ++ [⟨a, b, c, d, e, f⟩]) := by simp [frs, Fr.v]
@[simp] theorem frs_setT2 (l : List Fr) (j : Nat) (a : Int) (b : Int) (c : Int) (d : Int) (e : List Et) (f : List Ct) : (frs true l).set j (V.agg [.int .i64 a, .int .i64 b, .int .i64 c, .int .i64 d, .lst true 2 (ets true e), .lst true 3 (cts f)]) = frs true (l.set j ⟨a, b, c, d, e, f⟩) := by simp [frs, Fr.v, List.map_set]
@[simp] theorem frs_snocF2 (l : List Fr) (a : Int) (b : Int) (c : Int) (d : Int) (e : List Et) (f : List Ct) : frs false l ++ [V.agg [.int .i64 a, .int .i64 b, .int .i64 c, .int .i64 d, .lst false 0 (ets false e), .lst false 0 (cts f)]] = frs false (l ++ [⟨a, b, c, d, e, f⟩]) := by simp [frs, Fr.v]
@[simp] theorem frs_setF2 (l : List Fr) (j : Nat) (a : Int) (b : Int) (c : Int) (d : Int) (e : List Et) (f : List Ct) : (frs false l).set j (V.agg [.int .i64 a, .int .i64 b, .int .i64 c, .int .i64 d, .lst false 0 (ets false e), .lst false 0 (cts f)]) = frs false (l.set j ⟨a, b, c, d, e, f⟩) := by simp [frs, Fr.v, List.map_set]
@[simp] theorem frs_set (t : Bool) (l : List Fr) (i : Nat) (x : Fr) : (frs t l).set i (x.v t) = frs t (l.set i x) := by simp [frs, List.map_set]
@[simp] theorem frs_take (t : Bool) (n : Nat) (l : List Fr) : (frs t l).take n = frs t (l.take n) := by simp [frs, List.map_take]
@[simp] theorem frs_drop (t : Bool) (n : Nat) (l : List Fr) : (frs t l).drop n = frs t (l.drop n) := by simp [frs, List.map_drop]
@[simp] theorem Fr.cells_v (t : Bool) (x : Fr) : (x.v t).cells = 6 := rfl
@[simp] theorem Fr.mention (t : Bool) (x : Fr) : V.mention (x.v t) = [] := by simp [Fr.v, V.mention, V.mentionL, lst_mention]
@[simp] theorem Fr.share (t : Bool) (x : Fr) : (x.v t).share = x.v false := by simp [Fr.v, V.share, V.shareL, lst_share, ets_shareL, cts_shareL]
@[simp] theorem frs_shareL (t : Bool) (l : List Fr) : V.shareL (frs t l) = frs false l := by
  induction l with
  | nil => rfl
  | cons x l ih => simp [V.shareL, ih]
@[simp] theorem Fr.snap (t : Bool) (x : Fr) (q : St) : V.snap q (x.v t) = some (x.v false) := by simp [Fr.v, V.snap, V.snapL, mp, ets_shareL, cts_shareL]
@[simp] theorem Fr.snapA (t : Bool) (x : Fr) (q : St) : V.snapA q (x.v t) = some (x.v false) := Fr.snap t x q
@[simp] theorem Fr.snapP (t : Bool) (x : Fr) (q : St) : V.snapP q (x.v t) = some (x.v false) := Fr.snap t x q
@[simp] theorem Fr.accM (t : Bool) (x : Fr) : V.accM (x.v t) = [] := by simp [Fr.v, V.accM, V.accML]
@[simp] theorem Fr.accF (t : Bool) (x : Fr) : V.accF (x.v t) = [] := by simp [Fr.v, V.accF, V.accFL]
@[simp] theorem Fr.ren (t : Bool) (x : Fr) (ρ : Nat → Option Nat) (vr : Nat → Nat) : V.ren ρ vr (x.v t) = x.v t := by simp [Fr.v, V.ren, V.renL]
@[simp] theorem Fr.bA (i : Nat) (t : Bool) (x : Fr) (r : List V) : bindArgs i (x.v t :: r) = ((i, x.v t) :: (bindArgs (i + 1) r).1, (bindArgs (i + 1) r).2) := rfl
@[simp] theorem Fr.lodF (x : Fr) (o i ver : Nat) (fs : List Nat) : V.lod o i ver fs (x.v false) = x.v false := by simp [Fr.v, V.lod, V.lodL]
@[simp] theorem Fr.fzF (x : Fr) (s : St) : V.fz (x.v false) s = some (x.v false, s) := by simp [Fr.v, V.fz, V.fzL, mp]
@[simp] theorem Fr.fzI (t : Bool) (x : Fr) (s : St) : V.fzI (x.v t) s = some (x.v t, s) := by cases t <;> simp [Fr.v, V.fz, V.fzI, V.fzIL, mp]
@[simp] theorem Fr.scal (t : Bool) (x : Fr) : V.scal (x.v t) = false := by simp [Fr.v, V.scal, V.scalL]
@[simp] theorem Fr.isTup (t : Bool) (x : Fr) : (x.v t).isTup = false := rfl
@[simp] theorem Fr.tidyT (x : Fr) : V.tidy (x.v true) = true := by simp [Fr.v, V.tidy, V.tidyL, ets_tidyT, cts_tidyT]
@[simp] theorem frs_tidyT (l : List Fr) : V.tidyL (frs true l) = true := by
  induction l with
  | nil => rfl
  | cons x l ih => simp [V.tidyL, ih]
@[simp] theorem Fr.thawF (x : Fr) (id : Nat) : V.thaw id (x.v false) = (x.v false, [], id) := by simp [Fr.v, V.thaw, V.thawL]
@[simp] theorem Fr.thawT (x : Fr) (id : Nat) : V.thaw id (x.v true) = (.agg [.int .i64 x.kind, .int .i64 x.node, .int .i64 x.side, .int .i64 x.ep, .ref (id) 0 x.set.length, .ref (id + 1) 0 x.news.length], [(id, ⟨false, false, 2, ets true x.set, 0⟩), (id + 1, ⟨false, false, 3, cts x.news, 0⟩)], id + 1 + 1) := by simp [Fr.v, V.thaw, V.thawL]
structure Bt where
  side : Int
  ep : Int
  set : List Et
  deriving DecidableEq
theorem Bt.eq_iff {d g : Bt} : d = g ↔ d.side = g.side ∧ d.ep = g.ep ∧ d.set = g.set := by
  cases d; cases g; simp
def Bt.v (t : Bool) (x : Bt) : V := .agg [.int .i64 x.side, .int .i64 x.ep, .lst t (lz t 2) (ets t x.set)]
def bts (t : Bool) (l : List Bt) : List V := l.map (Bt.v t)
@[simp] theorem bts_len (t : Bool) (l : List Bt) : (bts t l).length = l.length := by simp [bts]
@[simp] theorem bts_nil (t : Bool) : bts t [] = [] := rfl
@[simp] theorem bts_cons (t : Bool) (x : Bt) (l : List Bt) : bts t (x :: l) = x.v t :: bts t l := rfl
@[simp] theorem bts_join (t : Bool) (l m : List Bt) : bts t l ++ bts t m = bts t (l ++ m) := by simp [bts]
@[simp] theorem bts_snoc (t : Bool) (l : List Bt) (x : Bt) : bts t l ++ [x.v t] = bts t (l ++ [x]) := by simp [bts]
@[simp] theorem bts_snocT2 (l : List Bt) (a : Int) (b : Int) (c : List Et) : bts true l ++ [V.agg [.int .i64 a, .int .i64 b, .lst true 2 (ets true c)]] = bts true (l ++ [⟨a, b, c⟩]) := by simp [bts, Bt.v]
@[simp] theorem bts_setT2 (l : List Bt) (j : Nat) (a : Int) (b : Int) (c : List Et) : (bts true l).set j (V.agg [.int .i64 a, .int .i64 b, .lst true 2 (ets true c)]) = bts true (l.set j ⟨a, b, c⟩) := by simp [bts, Bt.v, List.map_set]
@[simp] theorem bts_snocF2 (l : List Bt) (a : Int) (b : Int) (c : List Et) : bts false l ++ [V.agg [.int .i64 a, .int .i64 b, .lst false 0 (ets false c)]] = bts false (l ++ [⟨a, b, c⟩]) := by simp [bts, Bt.v]
@[simp] theorem bts_setF2 (l : List Bt) (j : Nat) (a : Int) (b : Int) (c : List Et) : (bts false l).set j (V.agg [.int .i64 a, .int .i64 b, .lst false 0 (ets false c)]) = bts false (l.set j ⟨a, b, c⟩) := by simp [bts, Bt.v, List.map_set]
@[simp] theorem bts_set (t : Bool) (l : List Bt) (i : Nat) (x : Bt) : (bts t l).set i (x.v t) = bts t (l.set i x) := by simp [bts, List.map_set]
@[simp] theorem bts_take (t : Bool) (n : Nat) (l : List Bt) : (bts t l).take n = bts t (l.take n) := by simp [bts, List.map_take]
@[simp] theorem bts_drop (t : Bool) (n : Nat) (l : List Bt) : (bts t l).drop n = bts t (l.drop n) := by simp [bts, List.map_drop]
@[simp] theorem Bt.cells_v (t : Bool) (x : Bt) : (x.v t).cells = 3 := rfl
@[simp] theorem Bt.mention (t : Bool) (x : Bt) : V.mention (x.v t) = [] := by simp [Bt.v, V.mention, V.mentionL, lst_mention]
@[simp] theorem Bt.share (t : Bool) (x : Bt) : (x.v t).share = x.v false := by simp [Bt.v, V.share, V.shareL, lst_share, ets_shareL]
@[simp] theorem bts_shareL (t : Bool) (l : List Bt) : V.shareL (bts t l) = bts false l := by
  induction l with
  | nil => rfl
  | cons x l ih => simp [V.shareL, ih]
@[simp] theorem Bt.snap (t : Bool) (x : Bt) (q : St) : V.snap q (x.v t) = some (x.v false) := by simp [Bt.v, V.snap, V.snapL, mp, ets_shareL]
@[simp] theorem Bt.snapA (t : Bool) (x : Bt) (q : St) : V.snapA q (x.v t) = some (x.v false) := Bt.snap t x q
@[simp] theorem Bt.snapP (t : Bool) (x : Bt) (q : St) : V.snapP q (x.v t) = some (x.v false) := Bt.snap t x q
@[simp] theorem Bt.accM (t : Bool) (x : Bt) : V.accM (x.v t) = [] := by simp [Bt.v, V.accM, V.accML]
@[simp] theorem Bt.accF (t : Bool) (x : Bt) : V.accF (x.v t) = [] := by simp [Bt.v, V.accF, V.accFL]
@[simp] theorem Bt.ren (t : Bool) (x : Bt) (ρ : Nat → Option Nat) (vr : Nat → Nat) : V.ren ρ vr (x.v t) = x.v t := by simp [Bt.v, V.ren, V.renL]
@[simp] theorem Bt.bA (i : Nat) (t : Bool) (x : Bt) (r : List V) : bindArgs i (x.v t :: r) = ((i, x.v t) :: (bindArgs (i + 1) r).1, (bindArgs (i + 1) r).2) := rfl
@[simp] theorem Bt.lodF (x : Bt) (o i ver : Nat) (fs : List Nat) : V.lod o i ver fs (x.v false) = x.v false := by simp [Bt.v, V.lod, V.lodL]
@[simp] theorem Bt.fzF (x : Bt) (s : St) : V.fz (x.v false) s = some (x.v false, s) := by simp [Bt.v, V.fz, V.fzL, mp]
@[simp] theorem Bt.fzI (t : Bool) (x : Bt) (s : St) : V.fzI (x.v t) s = some (x.v t, s) := by cases t <;> simp [Bt.v, V.fz, V.fzI, V.fzIL, mp]
@[simp] theorem Bt.scal (t : Bool) (x : Bt) : V.scal (x.v t) = false := by simp [Bt.v, V.scal, V.scalL]
@[simp] theorem Bt.isTup (t : Bool) (x : Bt) : (x.v t).isTup = false := rfl
@[simp] theorem Bt.tidyT (x : Bt) : V.tidy (x.v true) = true := by simp [Bt.v, V.tidy, V.tidyL, ets_tidyT]
@[simp] theorem bts_tidyT (l : List Bt) : V.tidyL (bts true l) = true := by
  induction l with
  | nil => rfl
  | cons x l ih => simp [V.tidyL, ih]
@[simp] theorem Bt.thawF (x : Bt) (id : Nat) : V.thaw id (x.v false) = (x.v false, [], id) := by simp [Bt.v, V.thaw, V.thawL]
@[simp] theorem Bt.thawT (x : Bt) (id : Nat) : V.thaw id (x.v true) = (.agg [.int .i64 x.side, .int .i64 x.ep, .ref (id) 0 x.set.length], [(id, ⟨false, false, 2, ets true x.set, 0⟩)], id + 1) := by simp [Bt.v, V.thaw, V.thawL]
structure Hd where
  oldA : List Et
  oldB : List Et
  waits : List Bt
  told : Int
  deriving DecidableEq
theorem Hd.eq_iff {d g : Hd} : d = g ↔ d.oldA = g.oldA ∧ d.oldB = g.oldB ∧ d.waits = g.waits ∧ d.told = g.told := by
  cases d; cases g; simp
def Hd.v (t : Bool) (x : Hd) : V := .agg [.lst t (lz t 2) (ets t x.oldA), .lst t (lz t 2) (ets t x.oldB), .lst t (lz t 3) (bts t x.waits), .int .i64 x.told]
def hds (t : Bool) (l : List Hd) : List V := l.map (Hd.v t)
@[simp] theorem hds_len (t : Bool) (l : List Hd) : (hds t l).length = l.length := by simp [hds]
@[simp] theorem hds_nil (t : Bool) : hds t [] = [] := rfl
@[simp] theorem hds_cons (t : Bool) (x : Hd) (l : List Hd) : hds t (x :: l) = x.v t :: hds t l := rfl
@[simp] theorem hds_join (t : Bool) (l m : List Hd) : hds t l ++ hds t m = hds t (l ++ m) := by simp [hds]
@[simp] theorem hds_snoc (t : Bool) (l : List Hd) (x : Hd) : hds t l ++ [x.v t] = hds t (l ++ [x]) := by simp [hds]
@[simp] theorem hds_snocT2 (l : List Hd) (a : List Et) (b : List Et) (c : List Bt) (d : Int) : hds true l ++ [V.agg [.lst true 2 (ets true a), .lst true 2 (ets true b), .lst true 3 (bts true c), .int .i64 d]] = hds true (l ++ [⟨a, b, c, d⟩]) := by simp [hds, Hd.v]
@[simp] theorem hds_setT2 (l : List Hd) (j : Nat) (a : List Et) (b : List Et) (c : List Bt) (d : Int) : (hds true l).set j (V.agg [.lst true 2 (ets true a), .lst true 2 (ets true b), .lst true 3 (bts true c), .int .i64 d]) = hds true (l.set j ⟨a, b, c, d⟩) := by simp [hds, Hd.v, List.map_set]
@[simp] theorem hds_snocF2 (l : List Hd) (a : List Et) (b : List Et) (c : List Bt) (d : Int) : hds false l ++ [V.agg [.lst false 0 (ets false a), .lst false 0 (ets false b), .lst false 0 (bts false c), .int .i64 d]] = hds false (l ++ [⟨a, b, c, d⟩]) := by simp [hds, Hd.v]
@[simp] theorem hds_setF2 (l : List Hd) (j : Nat) (a : List Et) (b : List Et) (c : List Bt) (d : Int) : (hds false l).set j (V.agg [.lst false 0 (ets false a), .lst false 0 (ets false b), .lst false 0 (bts false c), .int .i64 d]) = hds false (l.set j ⟨a, b, c, d⟩) := by simp [hds, Hd.v, List.map_set]
@[simp] theorem hds_set (t : Bool) (l : List Hd) (i : Nat) (x : Hd) : (hds t l).set i (x.v t) = hds t (l.set i x) := by simp [hds, List.map_set]
@[simp] theorem hds_take (t : Bool) (n : Nat) (l : List Hd) : (hds t l).take n = hds t (l.take n) := by simp [hds, List.map_take]
@[simp] theorem hds_drop (t : Bool) (n : Nat) (l : List Hd) : (hds t l).drop n = hds t (l.drop n) := by simp [hds, List.map_drop]
@[simp] theorem Hd.cells_v (t : Bool) (x : Hd) : (x.v t).cells = 4 := rfl
@[simp] theorem Hd.mention (t : Bool) (x : Hd) : V.mention (x.v t) = [] := by simp [Hd.v, V.mention, V.mentionL, lst_mention]
@[simp] theorem Hd.share (t : Bool) (x : Hd) : (x.v t).share = x.v false := by simp [Hd.v, V.share, V.shareL, lst_share, ets_shareL, ets_shareL, bts_shareL]
@[simp] theorem hds_shareL (t : Bool) (l : List Hd) : V.shareL (hds t l) = hds false l := by
  induction l with
  | nil => rfl
  | cons x l ih => simp [V.shareL, ih]
@[simp] theorem Hd.snap (t : Bool) (x : Hd) (q : St) : V.snap q (x.v t) = some (x.v false) := by simp [Hd.v, V.snap, V.snapL, mp, ets_shareL, ets_shareL, bts_shareL]
@[simp] theorem Hd.snapA (t : Bool) (x : Hd) (q : St) : V.snapA q (x.v t) = some (x.v false) := Hd.snap t x q
@[simp] theorem Hd.snapP (t : Bool) (x : Hd) (q : St) : V.snapP q (x.v t) = some (x.v false) := Hd.snap t x q
@[simp] theorem Hd.accM (t : Bool) (x : Hd) : V.accM (x.v t) = [] := by simp [Hd.v, V.accM, V.accML]
@[simp] theorem Hd.accF (t : Bool) (x : Hd) : V.accF (x.v t) = [] := by simp [Hd.v, V.accF, V.accFL]
@[simp] theorem Hd.ren (t : Bool) (x : Hd) (ρ : Nat → Option Nat) (vr : Nat → Nat) : V.ren ρ vr (x.v t) = x.v t := by simp [Hd.v, V.ren, V.renL]
@[simp] theorem Hd.bA (i : Nat) (t : Bool) (x : Hd) (r : List V) : bindArgs i (x.v t :: r) = ((i, x.v t) :: (bindArgs (i + 1) r).1, (bindArgs (i + 1) r).2) := rfl
@[simp] theorem Hd.lodF (x : Hd) (o i ver : Nat) (fs : List Nat) : V.lod o i ver fs (x.v false) = x.v false := by simp [Hd.v, V.lod, V.lodL]
@[simp] theorem Hd.fzF (x : Hd) (s : St) : V.fz (x.v false) s = some (x.v false, s) := by simp [Hd.v, V.fz, V.fzL, mp]
@[simp] theorem Hd.fzI (t : Bool) (x : Hd) (s : St) : V.fzI (x.v t) s = some (x.v t, s) := by cases t <;> simp [Hd.v, V.fz, V.fzI, V.fzIL, mp]
@[simp] theorem Hd.scal (t : Bool) (x : Hd) : V.scal (x.v t) = false := by simp [Hd.v, V.scal, V.scalL]
@[simp] theorem Hd.isTup (t : Bool) (x : Hd) : (x.v t).isTup = false := rfl
@[simp] theorem Hd.tidyT (x : Hd) : V.tidy (x.v true) = true := by simp [Hd.v, V.tidy, V.tidyL, ets_tidyT, ets_tidyT, bts_tidyT]
@[simp] theorem hds_tidyT (l : List Hd) : V.tidyL (hds true l) = true := by
  induction l with
  | nil => rfl
  | cons x l ih => simp [V.tidyL, ih]
@[simp] theorem Hd.thawF (x : Hd) (id : Nat) : V.thaw id (x.v false) = (x.v false, [], id) := by simp [Hd.v, V.thaw, V.thawL]
@[simp] theorem Hd.thawT (x : Hd) (id : Nat) : V.thaw id (x.v true) = (.agg [.ref (id) 0 x.oldA.length, .ref (id + 1) 0 x.oldB.length, .ref (id + 1 + 1) 0 x.waits.length, .int .i64 x.told], [(id, ⟨false, false, 2, ets true x.oldA, 0⟩), (id + 1, ⟨false, false, 2, ets true x.oldB, 0⟩), (id + 1 + 1, ⟨false, false, 3, bts true x.waits, 0⟩)], id + 1 + 1 + 1) := by simp [Hd.v, V.thaw, V.thawL]
structure Rl where
  node : Int
  ep : Int
  set : List Et
  deriving DecidableEq
theorem Rl.eq_iff {d g : Rl} : d = g ↔ d.node = g.node ∧ d.ep = g.ep ∧ d.set = g.set := by
  cases d; cases g; simp
def Rl.v (t : Bool) (x : Rl) : V := .agg [.int .i64 x.node, .int .i64 x.ep, .lst t (lz t 2) (ets t x.set)]
def rls (t : Bool) (l : List Rl) : List V := l.map (Rl.v t)
@[simp] theorem rls_len (t : Bool) (l : List Rl) : (rls t l).length = l.length := by simp [rls]
@[simp] theorem rls_nil (t : Bool) : rls t [] = [] := rfl
@[simp] theorem rls_cons (t : Bool) (x : Rl) (l : List Rl) : rls t (x :: l) = x.v t :: rls t l := rfl
@[simp] theorem rls_join (t : Bool) (l m : List Rl) : rls t l ++ rls t m = rls t (l ++ m) := by simp [rls]
@[simp] theorem rls_snoc (t : Bool) (l : List Rl) (x : Rl) : rls t l ++ [x.v t] = rls t (l ++ [x]) := by simp [rls]
@[simp] theorem rls_snocT2 (l : List Rl) (a : Int) (b : Int) (c : List Et) : rls true l ++ [V.agg [.int .i64 a, .int .i64 b, .lst true 2 (ets true c)]] = rls true (l ++ [⟨a, b, c⟩]) := by simp [rls, Rl.v]
@[simp] theorem rls_setT2 (l : List Rl) (j : Nat) (a : Int) (b : Int) (c : List Et) : (rls true l).set j (V.agg [.int .i64 a, .int .i64 b, .lst true 2 (ets true c)]) = rls true (l.set j ⟨a, b, c⟩) := by simp [rls, Rl.v, List.map_set]
@[simp] theorem rls_snocF2 (l : List Rl) (a : Int) (b : Int) (c : List Et) : rls false l ++ [V.agg [.int .i64 a, .int .i64 b, .lst false 0 (ets false c)]] = rls false (l ++ [⟨a, b, c⟩]) := by simp [rls, Rl.v]
@[simp] theorem rls_setF2 (l : List Rl) (j : Nat) (a : Int) (b : Int) (c : List Et) : (rls false l).set j (V.agg [.int .i64 a, .int .i64 b, .lst false 0 (ets false c)]) = rls false (l.set j ⟨a, b, c⟩) := by simp [rls, Rl.v, List.map_set]
@[simp] theorem rls_set (t : Bool) (l : List Rl) (i : Nat) (x : Rl) : (rls t l).set i (x.v t) = rls t (l.set i x) := by simp [rls, List.map_set]
@[simp] theorem rls_take (t : Bool) (n : Nat) (l : List Rl) : (rls t l).take n = rls t (l.take n) := by simp [rls, List.map_take]
@[simp] theorem rls_drop (t : Bool) (n : Nat) (l : List Rl) : (rls t l).drop n = rls t (l.drop n) := by simp [rls, List.map_drop]
@[simp] theorem Rl.cells_v (t : Bool) (x : Rl) : (x.v t).cells = 3 := rfl
@[simp] theorem Rl.mention (t : Bool) (x : Rl) : V.mention (x.v t) = [] := by simp [Rl.v, V.mention, V.mentionL, lst_mention]
@[simp] theorem Rl.share (t : Bool) (x : Rl) : (x.v t).share = x.v false := by simp [Rl.v, V.share, V.shareL, lst_share, ets_shareL]
@[simp] theorem rls_shareL (t : Bool) (l : List Rl) : V.shareL (rls t l) = rls false l := by
  induction l with
  | nil => rfl
  | cons x l ih => simp [V.shareL, ih]
@[simp] theorem Rl.snap (t : Bool) (x : Rl) (q : St) : V.snap q (x.v t) = some (x.v false) := by simp [Rl.v, V.snap, V.snapL, mp, ets_shareL]
@[simp] theorem Rl.snapA (t : Bool) (x : Rl) (q : St) : V.snapA q (x.v t) = some (x.v false) := Rl.snap t x q
@[simp] theorem Rl.snapP (t : Bool) (x : Rl) (q : St) : V.snapP q (x.v t) = some (x.v false) := Rl.snap t x q
@[simp] theorem Rl.accM (t : Bool) (x : Rl) : V.accM (x.v t) = [] := by simp [Rl.v, V.accM, V.accML]
@[simp] theorem Rl.accF (t : Bool) (x : Rl) : V.accF (x.v t) = [] := by simp [Rl.v, V.accF, V.accFL]
@[simp] theorem Rl.ren (t : Bool) (x : Rl) (ρ : Nat → Option Nat) (vr : Nat → Nat) : V.ren ρ vr (x.v t) = x.v t := by simp [Rl.v, V.ren, V.renL]
@[simp] theorem Rl.bA (i : Nat) (t : Bool) (x : Rl) (r : List V) : bindArgs i (x.v t :: r) = ((i, x.v t) :: (bindArgs (i + 1) r).1, (bindArgs (i + 1) r).2) := rfl
@[simp] theorem Rl.lodF (x : Rl) (o i ver : Nat) (fs : List Nat) : V.lod o i ver fs (x.v false) = x.v false := by simp [Rl.v, V.lod, V.lodL]
@[simp] theorem Rl.fzF (x : Rl) (s : St) : V.fz (x.v false) s = some (x.v false, s) := by simp [Rl.v, V.fz, V.fzL, mp]
@[simp] theorem Rl.fzI (t : Bool) (x : Rl) (s : St) : V.fzI (x.v t) s = some (x.v t, s) := by cases t <;> simp [Rl.v, V.fz, V.fzI, V.fzIL, mp]
@[simp] theorem Rl.scal (t : Bool) (x : Rl) : V.scal (x.v t) = false := by simp [Rl.v, V.scal, V.scalL]
@[simp] theorem Rl.isTup (t : Bool) (x : Rl) : (x.v t).isTup = false := rfl
@[simp] theorem Rl.tidyT (x : Rl) : V.tidy (x.v true) = true := by simp [Rl.v, V.tidy, V.tidyL, ets_tidyT]
@[simp] theorem rls_tidyT (l : List Rl) : V.tidyL (rls true l) = true := by
  induction l with
  | nil => rfl
  | cons x l ih => simp [V.tidyL, ih]
@[simp] theorem Rl.thawF (x : Rl) (id : Nat) : V.thaw id (x.v false) = (x.v false, [], id) := by simp [Rl.v, V.thaw, V.thawL]
@[simp] theorem Rl.thawT (x : Rl) (id : Nat) : V.thaw id (x.v true) = (.agg [.int .i64 x.node, .int .i64 x.ep, .ref (id) 0 x.set.length], [(id, ⟨false, false, 2, ets true x.set, 0⟩)], id + 1) := by simp [Rl.v, V.thaw, V.thawL]
structure Wk where
  inbox : List Fr
  counts : List Ct
  nodes : List Hd
  ep : Int
  top : Int
  outs : List Rl
  bad : Bool
  deriving DecidableEq
theorem Wk.eq_iff {d g : Wk} : d = g ↔ d.inbox = g.inbox ∧ d.counts = g.counts ∧ d.nodes = g.nodes ∧ d.ep = g.ep ∧ d.top = g.top ∧ d.outs = g.outs ∧ d.bad = g.bad := by
  cases d; cases g; simp
def Wk.v (t : Bool) (x : Wk) : V := .agg [.lst t (lz t 6) (frs t x.inbox), .lst t (lz t 3) (cts x.counts), .lst t (lz t 4) (hds t x.nodes), .int .i64 x.ep, .int .i64 x.top, .lst t (lz t 3) (rls t x.outs), .bool x.bad]
def wks (t : Bool) (l : List Wk) : List V := l.map (Wk.v t)
@[simp] theorem wks_len (t : Bool) (l : List Wk) : (wks t l).length = l.length := by simp [wks]
@[simp] theorem wks_nil (t : Bool) : wks t [] = [] := rfl
@[simp] theorem wks_cons (t : Bool) (x : Wk) (l : List Wk) : wks t (x :: l) = x.v t :: wks t l := rfl
@[simp] theorem wks_join (t : Bool) (l m : List Wk) : wks t l ++ wks t m = wks t (l ++ m) := by simp [wks]
@[simp] theorem wks_snoc (t : Bool) (l : List Wk) (x : Wk) : wks t l ++ [x.v t] = wks t (l ++ [x]) := by simp [wks]
@[simp] theorem wks_snocT2 (l : List Wk) (a : List Fr) (b : List Ct) (c : List Hd) (d : Int) (e : Int) (f : List Rl) (g : Bool) : wks true l ++ [V.agg [.lst true 6 (frs true a), .lst true 3 (cts b), .lst true 4 (hds true c), .int .i64 d, .int .i64 e, .lst true 3 (rls true f), .bool g]] = wks true (l ++ [⟨a, b, c, d, e, f, g⟩]) := by simp [wks, Wk.v]
@[simp] theorem wks_setT2 (l : List Wk) (j : Nat) (a : List Fr) (b : List Ct) (c : List Hd) (d : Int) (e : Int) (f : List Rl) (g : Bool) : (wks true l).set j (V.agg [.lst true 6 (frs true a), .lst true 3 (cts b), .lst true 4 (hds true c), .int .i64 d, .int .i64 e, .lst true 3 (rls true f), .bool g]) = wks true (l.set j ⟨a, b, c, d, e, f, g⟩) := by simp [wks, Wk.v, List.map_set]
@[simp] theorem wks_snocF2 (l : List Wk) (a : List Fr) (b : List Ct) (c : List Hd) (d : Int) (e : Int) (f : List Rl) (g : Bool) : wks false l ++ [V.agg [.lst false 0 (frs false a), .lst false 0 (cts b), .lst false 0 (hds false c), .int .i64 d, .int .i64 e, .lst false 0 (rls false f), .bool g]] = wks false (l ++ [⟨a, b, c, d, e, f, g⟩]) := by simp [wks, Wk.v]
@[simp] theorem wks_setF2 (l : List Wk) (j : Nat) (a : List Fr) (b : List Ct) (c : List Hd) (d : Int) (e : Int) (f : List Rl) (g : Bool) : (wks false l).set j (V.agg [.lst false 0 (frs false a), .lst false 0 (cts b), .lst false 0 (hds false c), .int .i64 d, .int .i64 e, .lst false 0 (rls false f), .bool g]) = wks false (l.set j ⟨a, b, c, d, e, f, g⟩) := by simp [wks, Wk.v, List.map_set]
@[simp] theorem wks_set (t : Bool) (l : List Wk) (i : Nat) (x : Wk) : (wks t l).set i (x.v t) = wks t (l.set i x) := by simp [wks, List.map_set]
@[simp] theorem wks_take (t : Bool) (n : Nat) (l : List Wk) : (wks t l).take n = wks t (l.take n) := by simp [wks, List.map_take]
@[simp] theorem wks_drop (t : Bool) (n : Nat) (l : List Wk) : (wks t l).drop n = wks t (l.drop n) := by simp [wks, List.map_drop]
@[simp] theorem Wk.cells_v (t : Bool) (x : Wk) : (x.v t).cells = 7 := rfl
@[simp] theorem Wk.mention (t : Bool) (x : Wk) : V.mention (x.v t) = [] := by simp [Wk.v, V.mention, V.mentionL, lst_mention]
@[simp] theorem Wk.share (t : Bool) (x : Wk) : (x.v t).share = x.v false := by simp [Wk.v, V.share, V.shareL, lst_share, frs_shareL, cts_shareL, hds_shareL, rls_shareL]
@[simp] theorem wks_shareL (t : Bool) (l : List Wk) : V.shareL (wks t l) = wks false l := by
  induction l with
  | nil => rfl
  | cons x l ih => simp [V.shareL, ih]
@[simp] theorem Wk.snap (t : Bool) (x : Wk) (q : St) : V.snap q (x.v t) = some (x.v false) := by simp [Wk.v, V.snap, V.snapL, mp, frs_shareL, cts_shareL, hds_shareL, rls_shareL]
@[simp] theorem Wk.snapA (t : Bool) (x : Wk) (q : St) : V.snapA q (x.v t) = some (x.v false) := Wk.snap t x q
@[simp] theorem Wk.snapP (t : Bool) (x : Wk) (q : St) : V.snapP q (x.v t) = some (x.v false) := Wk.snap t x q
@[simp] theorem Wk.accM (t : Bool) (x : Wk) : V.accM (x.v t) = [] := by simp [Wk.v, V.accM, V.accML]
@[simp] theorem Wk.accF (t : Bool) (x : Wk) : V.accF (x.v t) = [] := by simp [Wk.v, V.accF, V.accFL]
@[simp] theorem Wk.ren (t : Bool) (x : Wk) (ρ : Nat → Option Nat) (vr : Nat → Nat) : V.ren ρ vr (x.v t) = x.v t := by simp [Wk.v, V.ren, V.renL]
@[simp] theorem Wk.bA (i : Nat) (t : Bool) (x : Wk) (r : List V) : bindArgs i (x.v t :: r) = ((i, x.v t) :: (bindArgs (i + 1) r).1, (bindArgs (i + 1) r).2) := rfl
@[simp] theorem Wk.lodF (x : Wk) (o i ver : Nat) (fs : List Nat) : V.lod o i ver fs (x.v false) = x.v false := by simp [Wk.v, V.lod, V.lodL]
@[simp] theorem Wk.fzF (x : Wk) (s : St) : V.fz (x.v false) s = some (x.v false, s) := by simp [Wk.v, V.fz, V.fzL, mp]
@[simp] theorem Wk.fzI (t : Bool) (x : Wk) (s : St) : V.fzI (x.v t) s = some (x.v t, s) := by cases t <;> simp [Wk.v, V.fz, V.fzI, V.fzIL, mp]
@[simp] theorem Wk.scal (t : Bool) (x : Wk) : V.scal (x.v t) = false := by simp [Wk.v, V.scal, V.scalL]
@[simp] theorem Wk.isTup (t : Bool) (x : Wk) : (x.v t).isTup = false := rfl
@[simp] theorem Wk.tidyT (x : Wk) : V.tidy (x.v true) = true := by simp [Wk.v, V.tidy, V.tidyL, frs_tidyT, cts_tidyT, hds_tidyT, rls_tidyT]
@[simp] theorem wks_tidyT (l : List Wk) : V.tidyL (wks true l) = true := by
  induction l with
  | nil => rfl
  | cons x l ih => simp [V.tidyL, ih]
@[simp] theorem Wk.thawF (x : Wk) (id : Nat) : V.thaw id (x.v false) = (x.v false, [], id) := by simp [Wk.v, V.thaw, V.thawL]
@[simp] theorem Wk.thawT (x : Wk) (id : Nat) : V.thaw id (x.v true) = (.agg [.ref (id) 0 x.inbox.length, .ref (id + 1) 0 x.counts.length, .ref (id + 1 + 1) 0 x.nodes.length, .int .i64 x.ep, .int .i64 x.top, .ref (id + 1 + 1 + 1) 0 x.outs.length, .bool x.bad], [(id, ⟨false, false, 6, frs true x.inbox, 0⟩), (id + 1, ⟨false, false, 3, cts x.counts, 0⟩), (id + 1 + 1, ⟨false, false, 4, hds true x.nodes, 0⟩), (id + 1 + 1 + 1, ⟨false, false, 3, rls true x.outs, 0⟩)], id + 1 + 1 + 1 + 1) := by simp [Wk.v, V.thaw, V.thawL]
end Go.Proofs.Ytgkbmiaimjpbfaa.Ev
namespace Go.Proofs.Ytgkbmiaimjpbfaa.Ev
open Go
set_option maxRecDepth 100000
set_option linter.unusedSimpArgs false
set_option linter.unusedVariables false
set_option maxHeartbeats 2000000
theorem sz_I (l : List Int) (a : Int) (h : l.length < 4611686018427387904) (ha : 0 ≤ a) (hb : a < 4611686018427387904) : oc.call 144 [.lst false 0 (ints l), .int .i64 a] = some (.int .i64 (szI l.length a), []) := by
  have := e_sz 0 (ints l) a (by simpa using h) ha hb
  simpa [szI] using this
def wS {α : Type} (f : α → Nat) (l : List α) : Nat := (l.map f).sum
@[simp] theorem wS_nil {α : Type} (f : α → Nat) : wS f [] = 0 := rfl
@[simp] theorem wS_cons {α : Type} (f : α → Nat) (x : α) (l : List α) : wS f (x :: l) = f x + wS f l := by simp [wS]
theorem wS_mem {α : Type} {f : α → Nat} : ∀ {l : List α} {x : α}, x ∈ l → f x ≤ wS f l
  | y :: l, x, h => by
    rcases List.mem_cons.1 h with rfl | h
    · simp
    · have := wS_mem (f := f) h; simp; omega
theorem szI_pos {n : Nat} {a : Int} (h : 0 ≤ szI n a) : szI n a = a - n ∧ (n : Int) ≤ a := by
  unfold szI at *; split at h <;> simp_all <;> omega
theorem szI_le0 {n : Nat} {a : Int} (h : 0 ≤ a) : szI n a ≤ a := by unfold szI; split <;> omega
theorem szI_seq {m n : Nat} {a : Int} (h : 0 ≤ szI m a) : szI n (szI m a) = szI (m + n) a := by
  obtain ⟨h1, h2⟩ := szI_pos h
  rw [h1]; unfold szI; split <;> split <;> omega
theorem szI_stop {m n : Nat} {a : Int} (ha : 0 ≤ a) (h : szI m a < 0) : szI (m + n) a = -1 := by
  unfold szI at *; split at h
  · rw [if_pos (by omega)]
  · omega
def w_Et (x : Et) : Nat := x.row.length
def bg_Et (x : Et) : Prop := x.row.length ≤ 140737488351232
def w_Ets (l : List Et) : Nat := l.length + wS w_Et l
def bg_Ets (l : List Et) : Prop := l.length ≤ 140737488351232 ∧ ∀ x ∈ l, bg_Et x
theorem w_Ets_mem {l : List Et} {x : Et} (h : x ∈ l) : l.length + w_Et x ≤ w_Ets l := by
  have := wS_mem (f := w_Et) h; unfold w_Ets; omega
theorem w_Ets_len {l : List Et} : l.length ≤ w_Ets l := by unfold w_Ets; omega
theorem sz_Et (x : Et) (a : Int) (hb : bg_Et x) (ha : 0 ≤ a) (hc : a < 2000000) : oc.call 68 [x.v false, .int .i64 a] = some (.int .i64 (szI (w_Et x) a), []) := by
  refine fun_s rfl cd68 rfl rfl rfl (by simp; rfl) (by simp; rfl) ?_
  unfold bg_Et at hb
  refine wa_ (wc_region (w_ (bx (h := w_ (a_ (h := wo_nil (e_ (h := aft_normal (wa_ (wc_region (w_ (f_ (h := w_ (l_ (h := w_ (m_ (h := w_ (ca (hc := sz_I x.row (a) (by omega) (by omega) (by omega)) (h := ?_)))))))))))))))))))
  refine w_ (a_ (h := wo_nil (e_ (h := aft_normal (wa_ (wa_ (wc_region (w_ (m_ (h := w_ (b_ (h := wo_nil (e_ (h := aft_normal (?_)))))))))))))))
  refine c_ (h1 := ?_) (h2 := ?_)
  rotate_right 1
  focus
   intro c1
   first
   | exact dn c1
   | (have d1 := c1; try simp at d1
      have e1 := szI_pos (n := x.row.length) (a := a) (by omega)
      refine wc_skip (?_)
      )
  rotate_right 1
  focus
   intro c1
   first
   | exact dn c1
   | (have d1 := c1; try simp at d1
      refine wa_ (wc_region (w_ (a_ (h := wo_nil (e_ (h := aft_normal (wc_ret (?_))))))))
      )
  all_goals first
  | refine aft_ret ?_
  | (refine aft_normal ?_
     refine wa_ (wc_region (w_ (m_ (h := w_ (a_ (h := wo_nil (e_ (h := aft_normal (wc_ret (?_))))))))))
     )
  all_goals (refine fin_ (hr := (res_tmp rfl res_nil)) (h := ?_); (focus (simp [w_Et, szI] at *; grind)))
theorem l_sz_Ets (l : List Et) (hl : bg_Ets l) : ∀ x : Nat × Int, (x.1 ≤ l.length ∧ 0 ≤ x.2 ∧ x.2 < 2000000) → ∀ s, normE 2 (some [0, 1, 5]) s = ⟨[(0, .lst false 0 (ets false l)), (1, .int .i64 x.2), (5, .int .i64 x.1)], [], 2⟩ →
    oc.loop 12 5 s = some (if 0 ≤ szI (wS w_Et (l.drop x.1)) x.2 then (.exit 0, ⟨[(1, .int .i64 (szI (wS w_Et (l.drop x.1)) x.2))], [], 2⟩) else (.ret, ⟨[(1, .int .i64 (-1)), (4, .int .i64 (-1))], [], 2⟩)) := by
  refine loop_ind (σ := Nat × Int) (fun x => l.length - x.1) _ (fun x => ⟨[(0, .lst false 0 (ets false l)), (1, .int .i64 x.2), (5, .int .i64 x.1)], [], 2⟩) _ ?_
  rintro ⟨i, a⟩ hi ih s hs
  simp only at hi
  refine loop_s cd12 rfl rfl hs ?_
  refine wa_ (wa_ (wc_region (w_ (m_ (h := w_ (m_ (h := w_ (le (h := w_ (b_ (h := wo_nil (e_ (h := aft_normal (?_))))))))))))))
  refine c_ (h1 := ?_) (h2 := ?_)
  rotate_right 1
  focus
   intro c1
   first
   | exact dn c1
   | (have d1 := c1; try simp at d1
      obtain ⟨hi1, hi2, hi3⟩ := hi; have : i = l.length := (by omega); subst this
      refine wc_exit (?_)
      )
  rotate_right 1
  focus
   intro c1
   first
   | exact dn c1
   | (have d1 := c1; try simp at d1
      obtain ⟨hi1, hi2, hi3⟩ := hi; have hw := wrap_succ (i := i) (by have := hl.1; omega); obtain ⟨d, hx, e1, g1⟩ := ets_cut (l := l) (i := i) (t := false) (by omega); have hd := hl.2 d (List.mem_of_getElem? hx)
      refine wc_skip (?_)
      )
  all_goals first
  | refine aft_exit ?_
  | (refine aft_normal ?_
     refine wa_ (wc_block (wa_ (wc_region (w_ (m_ (h := w_ (m_ (h := w_ (x_ (h := w_ (l_ (h := w_ (m_ (h := w_ (ca (hc := sz_Et d a hd (by omega) (by omega)) (h := w_ (a_ (h := wo_nil (e_ (h := ?_))))))))))))))))))))
     refine aft_normal (wa_ (wc_region (w_ (m_ (h := w_ (b_ (h := wo_nil (e_ (h := aft_normal (?_))))))))))
     refine c_ (h1 := ?_) (h2 := ?_)
     rotate_right 1
     focus
      intro c2
      first
      | exact dn c2
      | (have d2 := c2; try simp at d2
         refine wc_skip (?_)
         )
     rotate_right 1
     focus
      intro c2
      first
      | exact dn c2
      | (have d2 := c2; try simp at d2
         refine wa_ (wc_region (w_ (a_ (h := wo_nil (e_ (h := aft_normal (wc_ret (?_))))))))
         )
     all_goals first | refine blk_normal ?_ | refine blk_ret ?_
     all_goals first
     | refine aft_ret ?_
     | (refine aft_normal ?_
        refine wc_region (w_ (m_ (h := w_ (b_ (h := w_ (a_ (h := wo_nil (e_ (h := ?_)))))))))
        )
     )
  all_goals first
  | (refine (ih ((i + 1, szI (w_Et d) a)) (⟨by simp; omega, by simp; omega, by have := szI_le0 (n := w_Et d) (a := a) (by omega); simp; omega⟩) ?_ _ ?_).trans ?_; (focus (first | omega | (simp; done) | (simp; omega))); (focus (simp [normE, hw]; done)); (focus (simp only [e1, wS_cons]; rw [szI_seq (by omega)])))
  | (apply end_leaf (ex := Ext.ret) 2 (some [1, 4]); (focus (simp [normE]; rfl)); (focus (simp only [e1, wS_cons]; rw [szI_stop (by omega) (by omega)]; simp; have := szI_neg (c := w_Et d) (a := a) (by omega); simp [this])))
  | (apply end_leaf (ex := (Ext.exit 0)) 2 (some [1, 4]); (focus (simp [normE]; rfl)); (focus (have e0 : szI 0 a = a := (by unfold szI; rw [if_neg (by omega)]; simp); simp [e0, hi2])))
theorem sz_Ets (l : List Et) (a : Int) (hb : bg_Ets l) (ha : 0 ≤ a) (hc : a < 2000000) : oc.call 12 [.lst false 0 (ets false l), .int .i64 a] = some (.int .i64 (szI (w_Ets l) a), []) := by
  refine fun_s rfl cd12 rfl rfl rfl (by simp; rfl) (by simp; rfl) ?_
  have hb1 := hb.1
  have hw : IntKind.i64.wrap (a - l.length) = a - l.length := wrap_id (by omega) (by omega)
  refine wa_ (wc_region (w_ (a_ (h := wo_nil (e_ (h := aft_normal (wa_ (wc_region (w_ (m_ (h := w_ (m_ (h := w_ (le (h := w_ (b_ (h := w_ (a_ (h := ?_)))))))))))))))))))
  refine wo_nil (e_ (h := aft_normal (wa_ (wa_ (wc_region (w_ (m_ (h := w_ (b_ (h := wo_nil (e_ (h := aft_normal (?_)))))))))))))
  refine c_ (h1 := ?_) (h2 := ?_)
  rotate_right 1
  focus
   intro c1
   first
   | exact dn c1
   | (have d1 := c1; try simp at d1
      simp only [hw] at d1; have e1 : szI l.length a = a - l.length := (by unfold szI; rw [if_neg (by omega)])
      refine wc_skip (?_)
      )
  rotate_right 1
  focus
   intro c1
   first
   | exact dn c1
   | (have d1 := c1; try simp at d1
      refine wa_ (wc_region (w_ (a_ (h := wo_nil (e_ (h := aft_normal (wc_ret (?_))))))))
      )
  all_goals first
  | refine aft_ret ?_
  | (refine aft_normal ?_
     refine wa_ (wa_ (wc_region (w_ (a_ (h := wo_nil (e_ (h := aft_normal (wc_block (?_)))))))))
     refine wc_loopI (l_sz_Ets l hb (0, a - l.length) ⟨by simp, by simp; omega, by simp; omega⟩ _ (by simp [normE, hw])) ?_ ?_
     rotate_right 1
     focus
      intro c2
      first
      | exact dn c2
      | (have d2 := c2; try simp at d2
         skip
         )
     rotate_right 1
     focus
      intro c2
      first
      | exact dn c2
      | (have d2 := c2; try simp at d2
         skip
         )
     all_goals first | refine blk_ret ?_ | refine blk_exit ?_
     all_goals first
     | refine aft_ret ?_
     | (refine aft_normal ?_
        refine wa_ (wc_region (w_ (m_ (h := w_ (a_ (h := wo_nil (e_ (h := aft_normal (wc_ret (?_))))))))))
        )
     )
  all_goals (refine fin_ (hr := (res_tmp rfl res_nil)) (h := ?_); (focus (simp [w_Ets, szI, hw] at *; grind)))
theorem to_Et (x : Et) (h : w_Et x < 2000000) : oc.call 74 [x.v false] = some (x.v true, []) := by
  refine fun_s rfl cd74 rfl rfl rfl (by simp; rfl) (by simp; rfl) ?_
  unfold w_Et at h
  refine wa_ (wc_region (w_ (bx (h := w_ (al (h := wo_nil (e_ (h := aft_normal (wa_ (wc_region (w_ (al (h := wo_nil (e_ (h := aft_normal (wa_ (?_)))))))))))))))))
  refine wc_region (w_ (f_ (h := w_ (l_ (h := w_ (ca (hc := e_toI x.row _ (by omega)) (h := w_ (f_ (h := w0 (s_ (h := wo_nil (e_ (h := aft_normal (wa_ (wc_region (w_ (f_ (h := w_ (l_ (h := ?_))))))))))))))))))))
  refine w_ (f_ (h := w0 (s_ (h := wo_nil (e_ (h := aft_normal (wa_ (wc_region (w_ (l_ (h := w0 (s_ (h := wo_nil (e_ (h := aft_normal (wc_ret (?_)))))))))))))))))
  all_goals (refine fin_ (hr := (res_cell (tys_ok.zero _ _ rfl) rfl (by simp; rfl) (by rfl) res_nil)) (h := ?_); (focus (simp [Et.v])))
theorem l_to_Ets (l : List Et) (h : w_Ets l < 2000000) : ∀ x : Nat × (List Et), (x.1 ≤ l.length ∧ x.2.length = l.length ∧ x.2.take x.1 = l.take x.1) → ∀ s, normE 1 (some [0, 3, 4]) s = ⟨[(0, .lst false 0 (ets false l)), (3, .ref 1 0 l.length), (4, .int .i64 x.1)], [(1, ⟨false, false, 2, ets true x.2, 0⟩)], 2⟩ →
    oc.loop 14 3 s = some (.exit 0, ⟨[(3, .ref 1 0 l.length)], [(1, ⟨false, false, 2, ets true l, 0⟩)], 2⟩) := by
  refine loop_ind (σ := Nat × (List Et)) (fun x => l.length - x.1) _ (fun x => ⟨[(0, .lst false 0 (ets false l)), (3, .ref 1 0 l.length), (4, .int .i64 x.1)], [(1, ⟨false, false, 2, ets true x.2, 0⟩)], 2⟩) _ ?_
  rintro ⟨i, r⟩ hi ih s hs
  simp only at hi
  refine loop_s cd14 rfl rfl hs ?_
  obtain ⟨hi1, hi2, hi3⟩ := hi
  have hlen := w_Ets_len (l := l)
  refine wa_ (wa_ (wc_region (w_ (m_ (h := w_ (m_ (h := w_ (le (h := w_ (b_ (h := wo_nil (e_ (h := aft_normal (?_))))))))))))))
  refine c_ (h1 := ?_) (h2 := ?_)
  rotate_right 1
  focus
   intro c1
   simp at c1; have : i = l.length := (by omega); subst this; rw [← hi2] at hi3; simp at hi3; rw [hi2] at hi3; simp at hi3; subst hi3
   refine wc_exit (?_)
  rotate_right 1
  focus
   intro c1
   simp at c1; have hw := wrap_succ (i := i) (by omega); obtain ⟨d, hx, d1, g1⟩ := ets_cut (t := false) c1; have hd := w_Ets_mem (List.mem_of_getElem? hx); obtain ⟨y, hy, _, g2⟩ := ets_cut (t := true) (l := r) (i := i) (by omega); simp at g2
   refine wc_skip (?_)
  all_goals first
  | refine aft_exit ?_
  | (refine aft_normal ?_
     refine wa_ (wc_block (wc_region (w_ (m_ (h := w_ (m_ (h := w_ (m_ (h := w_ (m_ (h := w_ (x_ (h := w_ (l_ (h := w_ (ca (hc := to_Et d (by omega)) (h := w_ (x_ (h := w0 (s_ (h := ?_)))))))))))))))))))))
     refine wo_nil (e_ (h := blk_normal (aft_normal (wc_region (w_ (m_ (h := w_ (b_ (h := w_ (a_ (h := wo_nil (e_ (h := ?_)))))))))))))
     )
  all_goals first
  | (refine (ih ((i + 1, r.set i d)) (⟨by simp; omega, by simpa using hi2, set_take hi3 hi2 hx⟩) ?_ _ ?_).trans ?_; (focus (first | omega | (simp; done) | (simp; omega))); (focus (simp [normE, hw]; done)); (focus (rfl)))
  | (apply end_leaf (ex := (Ext.exit 0)) 1 (some [3]); (focus (simp [normE]; rfl)); (focus (simp)))
theorem to_Ets (l : List Et) (h : w_Ets l < 2000000) : oc.call 14 [.lst false 0 (ets false l)] = some (.lst true 2 (ets true l), []) := by
  refine fun_s rfl cd14 rfl rfl rfl (by simp; rfl) (by simp; rfl) ?_
  have hlen := w_Ets_len (l := l)
  refine wa_ (wc_region (w_ (aN (h := wo_nil (e_ (h := aft_normal (wa_ (wc_region (w_ (m_ (h := w_ (le (h := w_ (mk (h := w_ (a_ (h := wo_nil (e_ (h := ?_)))))))))))))))))))
  refine aft_normal (wa_ (wa_ (wc_region (w_ (a_ (h := wo_nil (e_ (h := aft_normal (wc_block (?_))))))))))
  refine wc_loop (l_to_Ets l h (0, List.replicate l.length ⟨[], 0⟩) (by simp) _ (by simp [normE, ets_zero])) ?_
  refine blk_exit (aft_normal (wa_ (wc_region (w_ (m_ (h := w_ (a_ (h := wo_nil (e_ (h := aft_normal (wc_ret (?_))))))))))))
  all_goals (refine fin_ (hr := (res_tmp rfl res_nil)) (h := ?_); (focus (first | (simp_all; done) | (simp_all <;> omega) | (simp_all <;> split <;> simp_all <;> omega))))
theorem eq_Et (x y : Et) (h : w_Et x < 2000000) (h2 : w_Et y < 2000000) : oc.call 81 [x.v false, y.v false] = some (.bool (decide (x = y)), []) := by
  refine fun_s rfl cd81 rfl rfl rfl (by simp; rfl) (by simp; rfl) ?_
  unfold w_Et at h h2
  refine wa_ (wc_region (w_ (bx (h := w_ (bx (h := w_ (a_ (h := wo_nil (e_ (h := aft_normal (wa_ (wa_ (wc_region (w_ (f_ (h := w_ (l_ (h := ?_))))))))))))))))))
  refine w_ (f_ (h := w_ (l_ (h := w_ (ca (hc := e_eqI x.row y.row 0 0 (by omega) (by omega)) (h := w_ (u_ (h := wo_nil (e_ (h := aft_normal (?_)))))))))))
  refine c_ (h1 := ?_) (h2 := ?_)
  rotate_right 1
  focus
   intro c1
   refine wc_skip (?_)
  rotate_right 1
  focus
   intro c1
   refine wa_ (wc_region (w_ (a_ (h := wo_nil (e_ (h := aft_normal (wc_ret (?_))))))))
  all_goals first
  | refine aft_ret ?_
  | (refine aft_normal ?_
     refine wa_ (wa_ (wc_region (w_ (f_ (h := w_ (l_ (h := w_ (f_ (h := w_ (l_ (h := w_ (bE (h := wo_nil (e_ (h := aft_normal (?_))))))))))))))))
     refine c_ (h1 := ?_) (h2 := ?_)
     rotate_right 1
     focus
      intro c2
      refine wc_skip (?_)
     rotate_right 1
     focus
      intro c2
      refine wa_ (wc_region (w_ (a_ (h := wo_nil (e_ (h := aft_normal (wc_ret (?_))))))))
     all_goals first
     | refine aft_ret ?_
     | (refine aft_normal ?_
        refine wa_ (wc_region (w_ (a_ (h := wo_nil (e_ (h := aft_normal (wc_ret (?_))))))))
        )
     )
  all_goals (refine fin_ (hr := (res_tmp rfl res_nil)) (h := ?_); (focus (first | (simp_all [Et.eq_iff]; done) | (simp [Et.eq_iff] at *; grind))))
theorem l_eq_Ets (l m : List Et) (h : w_Ets l < 2000000) (h2 : w_Ets m < 2000000) (hlm : l.length = m.length) : ∀ i : Nat, (i ≤ l.length) → ∀ s, normE 2 (some [0, 1, 5]) s = ⟨[(0, .lst false 0 (ets false l)), (1, .lst false 0 (ets false m)), (5, .int .i64 i)], [], 2⟩ →
    oc.loop 17 4 s = some (if l.drop i = m.drop i then (.exit 0, ⟨[], [], 2⟩) else (.ret, ⟨[(4, .bool false)], [], 2⟩)) := by
  refine loop_ind (σ := Nat) (fun i => l.length - i) _ (fun i => ⟨[(0, .lst false 0 (ets false l)), (1, .lst false 0 (ets false m)), (5, .int .i64 i)], [], 2⟩) _ ?_
  intro i hi ih s hs
  refine loop_s cd17 rfl rfl hs ?_
  have hl1 := w_Ets_len (l := l)
  refine wa_ (wa_ (wc_region (w_ (m_ (h := w_ (m_ (h := w_ (le (h := w_ (b_ (h := wo_nil (e_ (h := aft_normal (?_))))))))))))))
  refine c_ (h1 := ?_) (h2 := ?_)
  rotate_right 1
  focus
   intro c1
   simp at c1; have : i = l.length := (by omega); subst this
   refine wc_exit (?_)
  rotate_right 1
  focus
   intro c1
   simp at c1; have hw := wrap_succ (i := i) (by omega); obtain ⟨x, hx, d1, g1⟩ := ets_cut (t := false) c1; obtain ⟨y, hy, d2, g2⟩ := ets_cut (t := false) (l := m) (i := i) (by omega); have m1 := w_Ets_mem (List.mem_of_getElem? hx); have m2 := w_Ets_mem (List.mem_of_getElem? hy)
   refine wc_skip (?_)
  all_goals first
  | refine aft_exit ?_
  | (refine aft_normal ?_
     refine wa_ (wc_block (wa_ (wc_draw (y_ (m_ (h := ax_ (h := y_ (m_ (h := ax_ (h := y_ (x_ (h := ax_ (h := y_ (l_ (h := ax_ (h := y_ (m_ (h := ax_ (h := y_ (m_ (h := ax_ (h := y_ (x_ (h := ax_ (h := y_ (l_ (h := ax_ (h := ?_))))))))))))))))))))))))))))
     refine y_ (ca (hc := eq_Et x y (by omega) (by omega)) (h := ax_ (h := y_ (u_ (h := ax_ (h := wo_nil (ed (h := aft_normal (?_)))))))))
     refine c_ (h1 := ?_) (h2 := ?_)
     rotate_right 1
     focus
      intro c2
      refine wc_skip (?_)
     rotate_right 1
     focus
      intro c2
      refine wa_ (wc_region (w_ (a_ (h := wo_nil (e_ (h := aft_normal (wc_ret (?_))))))))
     all_goals first | refine blk_normal ?_ | refine blk_ret ?_
     all_goals first
     | refine aft_ret ?_
     | (refine aft_normal ?_
        refine wc_region (w_ (m_ (h := w_ (b_ (h := w_ (a_ (h := wo_nil (e_ (h := ?_)))))))))
        )
     )
  all_goals first
  | (refine (ih (i + 1) (by omega) ?_ _ ?_).trans ?_; (focus (first | omega | (simp; done) | (simp; omega))); (focus (simp [normE, hw]; done)); (focus (simp at c2; rw [d1, d2]; simp [c2])))
  | (apply end_leaf (ex := Ext.ret) 2 (some [4]); (focus (simp [normE]; rfl)); (focus (simp at c2; rw [d1, d2]; simp [c2])))
  | (apply end_leaf (ex := (Ext.exit 0)) 2 (some [4]); (focus (simp [normE]; rfl)); (focus (rw [if_pos (by simp [hlm])])))
theorem eq_Ets (l m : List Et) (h : w_Ets l < 2000000) (h2 : w_Ets m < 2000000) : oc.call 17 [.lst false 0 (ets false l), .lst false 0 (ets false m)] = some (.bool (decide (l = m)), []) := by
  refine fun_s rfl cd17 rfl rfl rfl (by simp; rfl) (by simp; rfl) ?_
  refine wa_ (wc_region (w_ (a_ (h := wo_nil (e_ (h := aft_normal (wa_ (wa_ (wc_region (w_ (m_ (h := w_ (le (h := w_ (m_ (h := w_ (le (h := ?_))))))))))))))))))
  refine w_ (bE (h := wo_nil (e_ (h := aft_normal (?_)))))
  refine c_ (h1 := ?_) (h2 := ?_)
  rotate_right 1
  focus
   intro c1
   simp at c1
   refine wc_skip (?_)
  rotate_right 1
  focus
   intro c1
   simp at c1; have hne : l ≠ m := (by rintro rfl; exact c1 rfl)
   refine wa_ (wc_region (w_ (a_ (h := wo_nil (e_ (h := aft_normal (wc_ret (?_))))))))
  all_goals first
  | refine aft_ret ?_
  | (refine aft_normal ?_
     refine wa_ (wa_ (wc_region (w_ (a_ (h := wo_nil (e_ (h := aft_normal (wc_block (?_)))))))))
     refine wc_loopI (l_eq_Ets l m h h2 (by omega) 0 (by omega) _ (by simp [normE])) ?_ ?_
     rotate_right 1
     focus
      intro c2
      skip
     rotate_right 1
     focus
      intro c2
      skip
     all_goals first | refine blk_ret ?_ | refine blk_exit ?_
     all_goals first
     | refine aft_ret ?_
     | (refine aft_normal ?_
        refine wa_ (wc_region (w_ (a_ (h := wo_nil (e_ (h := aft_normal (wc_ret (?_))))))))
        )
     )
  all_goals (refine fin_ (hr := (res_tmp rfl res_nil)) (h := ?_); (focus (first | (simp_all; done) | (simp_all <;> omega) | (simp_all <;> split <;> simp_all <;> omega))))
end Go.Proofs.Ytgkbmiaimjpbfaa.Ev
namespace Go.Proofs.Ytgkbmiaimjpbfaa.Ev
open Go
set_option maxRecDepth 100000
set_option linter.unusedSimpArgs false
set_option linter.unusedVariables false
set_option maxHeartbeats 2000000
theorem oc_ok : CallOK Try.prog oc.call := by
  unfold oc
  exact or_sound (by kernel_rfl) tb
def i64ok (m : Int) : Prop := -9223372036854775808 ≤ m ∧ m ≤ 9223372036854775807
theorem dInt {n : Nat} {v : V} (h : hasT Try.prog (n + 1) 2 v) : ∃ m, v = .int .i64 m ∧ i64ok m := by
  obtain ⟨m, e, h1, h2⟩ := dec_int Try.underlying2 h
  exact ⟨m, e, by simpa [i64ok, IntKind.min, IntKind.max, IntKind.signed, IntKind.bits] using ⟨h1, h2⟩⟩
theorem dInts {n : Nat} {v : V} (h : hasT Try.prog (n + 2) 58 v) : ∃ l, v = .lst false 0 (ints l) ∧ l.length ≤ 140737488351232 ∧ ∀ m ∈ l, i64ok m := by
  obtain ⟨xs, e, h1, h2⟩ := dec_slice Try.underlying58 h
  obtain ⟨l, e2, h3⟩ := dec_list (f := fun m => V.int .i64 m) (p := i64ok) (fun x hx => dInt (h2 x hx))
  exact ⟨l, by rw [e, e2]; rfl, by rw [e2] at h1; simpa using h1, h3⟩
theorem dNode {n : Nat} {v : V} (h : hasT Try.prog (n + 3) 139 v) : ∃ d : Nd, v = d.v false 0 ∧ d.cells.length ≤ 140737488351232 := by
  obtain ⟨xs, e, x1, q1, rfl, t1, x2, q2, rfl, t2, x3, q3, rfl, t3, x4, q4, rfl, t4, x5, q5, rfl, t5, x6, q6, rfl, t6, x7, q7, rfl, t7, hq⟩ := dec_struct Try.underlying139 h
  obtain ⟨a1, rfl, _⟩ := dInt t1; obtain ⟨a2, rfl, _⟩ := dInt t2; obtain ⟨a3, rfl, _⟩ := dInt t3; obtain ⟨a4, rfl, _⟩ := dInt t4; obtain ⟨a5, rfl, _⟩ := dInt t5; obtain ⟨a6, rfl, _⟩ := dInt t6
  obtain ⟨l, rfl, hl, _⟩ := dInts t7
  simp only [List.map_nil, hasL] at hq
  subst hq
  exact ⟨⟨a1, a2, a3, a4, a5, a6, l⟩, e, hl⟩
theorem dNodes {n : Nat} {v : V} (h : hasT Try.prog (n + 4) 61 v) : ∃ l, v = .lst false 0 (nds false 0 l) ∧ okB l := by
  obtain ⟨xs, e, h1, h2⟩ := dec_slice Try.underlying61 h
  obtain ⟨l, e2, h3⟩ := dec_list (f := Nd.v false 0) (p := fun d => d.cells.length ≤ 140737488351232) (fun x hx => dNode (h2 x hx))
  exact ⟨l, by rw [e, e2]; rfl, by rw [e2] at h1; simpa using h1, h3⟩
theorem dEt {n : Nat} {v : V} (h : hasT Try.prog (n + 3) 110 v) : ∃ d : Et, v = d.v false ∧ bg_Et d := by
  obtain ⟨xs, e, x0, q0, rfl, t0, x1, q1, rfl, t1, hq⟩ := dec_struct Try.underlying110 h
  obtain ⟨a0, rfl, b0, _⟩ := dInts t0
  obtain ⟨a1, rfl, _⟩ := dInt t1
  simp only [List.map_nil, hasL] at hq
  subst hq
  exact ⟨⟨a0, a1⟩, e, b0⟩
theorem dEts {n : Nat} {v : V} (h : hasT Try.prog (n + 4) 22 v) : ∃ l, v = .lst false 0 (ets false l) ∧ bg_Ets l := by
  obtain ⟨xs, e, h1, h2⟩ := dec_slice Try.underlying22 h
  obtain ⟨l, e2, h3⟩ := dec_list (f := Et.v false) (p := bg_Et) (fun x hx => dEt (h2 x hx))
  exact ⟨l, by rw [e, e2]; rfl, by rw [e2] at h1; simpa using h1, h3⟩
end Go.Proofs.Ytgkbmiaimjpbfaa.Ev
namespace Go.Proofs.Ytgkbmiaimjpbfaa.Ev
open Go
set_option maxRecDepth 100000
set_option linter.unusedSimpArgs false
set_option linter.unusedVariables false
set_option maxHeartbeats 2000000
theorem l_eqG (a b : List Int) (z z' : Nat) (ha : a.length < 4000000000) (hab : a.length = b.length) : ∀ i : Nat, i ≤ a.length → ∀ s, normE 2 (some [0, 1, 12, 13]) s = ⟨[(0, .lst false z (ints a)), (1, .lst false z' (ints b)), (12, .int .i64 a.length), (13, .int .i64 i)], [], 2⟩ →
    oc.loop 186 4 s = some (if a.drop i = b.drop i then (.exit 0, ⟨[], [], 2⟩) else (.ret, ⟨[(4, .bool false)], [], 2⟩)) := by
  refine loop_ind (fun i => a.length - i) _ (fun i => ⟨[(0, .lst false z (ints a)), (1, .lst false z' (ints b)), (12, .int .i64 a.length), (13, .int .i64 i)], [], 2⟩) _ ?_
  intro i hi ih s hs
  refine loop_s cd186 rfl rfl hs ?_
  refine wa_ (wc_region (w_ (b_ (h := wo_nil (e_ (h := aft_normal (wa_ (?_))))))))
  refine c_ (h1 := ?_) (h2 := ?_)
  rotate_right 1
  focus
   intro c1
   simp at c1; have : i = a.length := (by omega); subst this
   refine wc_exit (?_)
  rotate_right 1
  focus
   intro c1
   simp at c1; have hw := wrap_succ (i := i) (by omega); obtain ⟨x, _, d1, g1⟩ := ints_cut c1; obtain ⟨y, _, d2, g2⟩ := ints_cut (l := b) (i := i) (by omega)
   refine wc_skip (?_)
  all_goals first
  | refine aft_exit ?_
  | (refine aft_normal ?_
     refine wa_ (wc_block (wa_ (wc_region (w_ (m_ (h := w_ (a_ (h := wo_nil (e_ (h := aft_normal (wa_ (wc_draw (y_ (m_ (h := ax_ (h := y_ (m_ (h := ax_ (h := ?_)))))))))))))))))))
     refine y_ (x_ (h := ax_ (h := y_ (l_ (h := ax_ (h := y_ (m_ (h := ax_ (h := y_ (m_ (h := ax_ (h := y_ (x_ (h := ax_ (h := y_ (l_ (h := ax_ (h := y_ (bE (h := ax_ (h := wo_nil (ed (h := aft_normal (?_))))))))))))))))))))))))
     refine c_ (h1 := ?_) (h2 := ?_)
     rotate_right 1
     focus
      intro c2
      refine wc_skip (?_)
     rotate_right 1
     focus
      intro c2
      refine wa_ (wc_region (w_ (a_ (h := wo_nil (e_ (h := aft_normal (wc_ret (?_))))))))
     all_goals first | refine blk_normal ?_ | refine blk_ret ?_
     all_goals first
     | refine aft_ret ?_
     | (refine aft_normal ?_
        refine wc_region (w_ (b_ (h := w_ (m_ (h := wo_nil (e_ (h := ?_)))))))
        )
     )
  all_goals first
  | (refine (ih (i + 1) (by omega) ?_ _ ?_).trans ?_; (focus (first | omega | (simp; done) | (simp; omega))); (focus (simp [normE, hw]; done)); (focus (simp at c2; rw [d1, d2]; simp [c2])))
  | (apply end_leaf (ex := Ext.ret) 2 (some [4]); (focus (simp [normE]; rfl)); (focus (simp at c2; rw [d1, d2]; simp [c2])))
  | (apply end_leaf (ex := (Ext.exit 0)) 2 (some [4]); (focus (simp [normE]; rfl)); (focus (rw [if_pos (by simp [hab])])))
theorem e_eqG (a b : List Int) (z z' : Nat) (ha : a.length < 4000000000) (hb : b.length < 4000000000) : oc.call 186 [.lst false z (ints a), .lst false z' (ints b)] = some (.bool (decide (a = b)), []) := by
  refine fun_s rfl cd186 rfl rfl rfl (by simp; rfl) (by simp; rfl) ?_
  refine wa_ (wc_region (w_ (a_ (h := wo_nil (e_ (h := aft_normal (wa_ (wa_ (wc_region (w_ (m_ (h := w_ (le (h := w_ (m_ (h := w_ (le (h := ?_))))))))))))))))))
  refine w_ (bE (h := wo_nil (e_ (h := aft_normal (?_)))))
  refine c_ (h1 := ?_) (h2 := ?_)
  rotate_right 1
  focus
   intro c1
   simp at c1
   refine wc_skip (?_)
  rotate_right 1
  focus
   intro c1
   simp at c1; have hne : a ≠ b := (by rintro rfl; exact c1 rfl)
   refine wa_ (wc_region (w_ (a_ (h := wo_nil (e_ (h := aft_normal (wc_ret (?_))))))))
  all_goals first
  | refine aft_ret ?_
  | (refine aft_normal ?_
     refine wa_ (wa_ (wc_region (w_ (m_ (h := w_ (le (h := w_ (m_ (h := wo_nil (e_ (h := aft_normal (wc_block (?_)))))))))))))
     refine wc_loopI (l_eqG a b z z' ha (by omega) 0 (by omega) _ (by simp [normE])) ?_ ?_
     rotate_right 1
     focus
      intro c2
      skip
     rotate_right 1
     focus
      intro c2
      skip
     all_goals first | refine blk_ret ?_ | refine blk_exit ?_
     all_goals first
     | refine aft_ret ?_
     | (refine aft_normal ?_
        refine wa_ (wc_region (w_ (a_ (h := wo_nil (e_ (h := aft_normal (wc_ret (?_))))))))
        )
     )
  all_goals (refine fin_ (hr := (res_tmp rfl res_nil)) (h := ?_); (focus (first | (simp_all; done) | (simp_all <;> omega) | (simp_all <;> split <;> simp_all <;> omega))))
theorem e_same (z z' : Nat) (d g : Nd) (ha : d.cells.length < 4000000) (hb : g.cells.length < 4000000) : oc.call 168 [d.v false z, g.v false z'] = some (.bool (decide (d = g)), []) := by
  refine fun_s rfl cd168 rfl rfl rfl (by simp; rfl) (by simp; rfl) ?_
  refine wa_ (wc_region (w_ (bx (h := w_ (bx (h := w_ (a_ (h := wo_nil (e_ (h := aft_normal (wa_ (wc_region (w_ (f_ (h := w_ (l_ (h := w_ (f_ (h := ?_)))))))))))))))))))
  refine w_ (l_ (h := w_ (bE (h := w_ (m_ (h := ?_))))))
  refine gw_ (h1 := ?_) (h2 := ?_)
  rotate_right 1
  focus
   intro c1
   first
   | exact dn c1
   | (have d1 := c1; try simp at d1
      refine go_ (h := go_ (h := go_ (h := go_ (h := go_ (h := ?_)))))
      )
  rotate_right 1
  focus
   intro c1
   first
   | exact dn c1
   | (have d1 := c1; try simp at d1
      refine g_ (h := w_ (f_ (h := g_ (h := w_ (l_ (h := g_ (h := w_ (f_ (h := g_ (h := w_ (l_ (h := g_ (h := w_ (bE (h := ?_)))))))))))))))
      )
  all_goals
   refine w_ (pk (h := w_ (m_ (h := ?_))))
   refine gw_ (h1 := ?_) (h2 := ?_)
   rotate_right 1
   focus
    intro c2
    first
    | exact dn c2
    | (have d2 := c2; try simp at d2
       refine go_ (h := go_ (h := go_ (h := go_ (h := go_ (h := ?_)))))
       )
   rotate_right 1
   focus
    intro c2
    first
    | exact dn c2
    | (have d2 := c2; try simp at d2
       refine g_ (h := w_ (f_ (h := g_ (h := w_ (l_ (h := g_ (h := w_ (f_ (h := g_ (h := w_ (l_ (h := g_ (h := w_ (bE (h := ?_)))))))))))))))
       )
   all_goals
    refine w_ (pk (h := w_ (m_ (h := ?_))))
    refine gw_ (h1 := ?_) (h2 := ?_)
    rotate_right 1
    focus
     intro c3
     first
     | exact dn c3
     | (have d3 := c3; try simp at d3
        refine go_ (h := go_ (h := go_ (h := go_ (h := go_ (h := ?_)))))
        )
    rotate_right 1
    focus
     intro c3
     first
     | exact dn c3
     | (have d3 := c3; try simp at d3
        refine g_ (h := w_ (f_ (h := g_ (h := w_ (l_ (h := g_ (h := w_ (f_ (h := g_ (h := w_ (l_ (h := g_ (h := w_ (bE (h := ?_)))))))))))))))
        )
    all_goals
     refine w_ (pk (h := w_ (m_ (h := ?_))))
     refine gw_ (h1 := ?_) (h2 := ?_)
     rotate_right 1
     focus
      intro c4
      first
      | exact dn c4
      | (have d4 := c4; try simp at d4
         refine go_ (h := go_ (h := go_ (h := go_ (h := go_ (h := ?_)))))
         )
     rotate_right 1
     focus
      intro c4
      first
      | exact dn c4
      | (have d4 := c4; try simp at d4
         refine g_ (h := w_ (f_ (h := g_ (h := w_ (l_ (h := g_ (h := w_ (f_ (h := g_ (h := w_ (l_ (h := g_ (h := w_ (bE (h := ?_)))))))))))))))
         )
     all_goals
      refine w_ (pk (h := w_ (m_ (h := ?_))))
      refine gw_ (h1 := ?_) (h2 := ?_)
      rotate_right 1
      focus
       intro c5
       first
       | exact dn c5
       | (have d5 := c5; try simp at d5
          refine go_ (h := go_ (h := go_ (h := go_ (h := go_ (h := ?_)))))
          )
      rotate_right 1
      focus
       intro c5
       first
       | exact dn c5
       | (have d5 := c5; try simp at d5
          refine g_ (h := w_ (f_ (h := g_ (h := w_ (l_ (h := g_ (h := w_ (f_ (h := g_ (h := w_ (l_ (h := g_ (h := w_ (bE (h := ?_)))))))))))))))
          )
      all_goals
       refine w_ (pk (h := w_ (m_ (h := ?_))))
       refine gw_ (h1 := ?_) (h2 := ?_)
       rotate_right 1
       focus
        intro c6
        first
        | exact dn c6
        | (have d6 := c6; try simp at d6
           refine go_ (h := go_ (h := go_ (h := go_ (h := go_ (h := ?_)))))
           )
       rotate_right 1
       focus
        intro c6
        first
        | exact dn c6
        | (have d6 := c6; try simp at d6
           refine g_ (h := w_ (f_ (h := g_ (h := w_ (l_ (h := g_ (h := w_ (f_ (h := g_ (h := w_ (l_ (h := g_ (h := w_ (ca (hc := e_eqG _ _ _ _ (by omega) (by omega)) (h := ?_)))))))))))))))
           )
       all_goals
        refine w_ (pk (h := w_ (a_ (h := wo_nil (e_ (h := ?_))))))
  all_goals first
  | (refine aft_normal ?_
     refine wc_ret (?_)
     )
  all_goals (refine fin_ (hr := (res_tmp rfl res_nil)) (h := ?_); (focus (simp [Nd.eq_iff]; grind)))
def readsN (d : Nd) : List Int := if d.op = 1 then [] else if d.op = 4 ∨ d.op = 6 then [d.a, d.b] else [d.a]
theorem e_reads (z : Nat) (d : Nd) : oc.call 170 [d.v false z] = some (.lst true 1 (ints (readsN d)), []) := by
  refine fun_s rfl cd170 rfl rfl rfl (by simp; rfl) (by simp; rfl) ?_
  refine wa_ (wc_region (w_ (bx (h := w_ (aN (h := wo_nil (e_ (h := aft_normal (wa_ (wc_block (wa_ (wc_region (w_ (f_ (h := w_ (l_ (h := ?_)))))))))))))))))
  refine w_ (bE (h := w_ (a_ (h := wo_nil (e_ (h := aft_normal (?_)))))))
  refine c_ (h1 := ?_) (h2 := ?_)
  rotate_right 1
  focus
   intro c1
   first
   | exact dn c1
   | (have d1 := c1; try simp at d1
      refine wa_ (wc_region (w_ (f_ (h := w_ (l_ (h := w_ (ca (hc := e_two _) (h := w_ (a_ (h := wo_nil (e_ (h := aft_normal (?_)))))))))))))
      refine c_ (h1 := ?_) (h2 := ?_)
      rotate_right 1
      focus
       intro c2
       first
       | exact dn c2
       | (have d2 := c2; try simp at d2
          refine wc_skip (?_)
          )
      rotate_right 1
      focus
       intro c2
       first
       | exact dn c2
       | (have d2 := c2; try simp at d2
          refine wa_ (wc_region (w_ (f_ (h := w_ (l_ (h := w_ (f_ (h := w_ (l_ (h := w_ (bs (h := w_ (a_ (h := wo_nil (e_ (h := aft_normal (wc_ret (?_))))))))))))))))))
          )
      )
  rotate_right 1
  focus
   intro c1
   first
   | exact dn c1
   | (have d1 := c1; try simp at d1
      refine wa_ (wc_region (w_ (aN (h := wo_nil (e_ (h := aft_normal (wc_ret (?_))))))))
      )
  all_goals first | refine blk_normal ?_ | refine blk_ret ?_
  all_goals first
  | refine aft_ret ?_
  | (refine aft_normal ?_
     refine wa_ (wc_region (w_ (f_ (h := w_ (l_ (h := w_ (bs (h := w_ (a_ (h := wo_nil (e_ (h := aft_normal (wc_ret (?_))))))))))))))
     )
  all_goals (refine fin_ (hr := (res_tmp rfl res_nil)) (h := ?_); (focus (simp_all [readsN])))
def plainN (d : Nd) : Nd := ⟨d.op, if d.op = 1 then 0 else d.a, if d.op = 4 ∨ d.op = 6 then d.b else 0, if d.op = 1 ∨ d.op = 2 ∨ 6 ≤ d.op ∧ d.op ≤ 10 then d.col else 0, if d.op = 2 then d.test else 0, if d.op = 2 then d.value else 0, if d.op = 3 then d.cells else []⟩
theorem e_plain3 (z : Nat) (d : Nd) (h : d.op = 3) : oc.call 169 [d.v false z] = some ((plainN d).v false z, []) := by
  refine fun_s rfl cd169 rfl rfl rfl (by simp; rfl) (by simp; rfl) ?_
  refine wa_ (wc_region (w_ (bx (h := w_ (al (h := wo_nil (e_ (h := aft_normal (wa_ (wc_region (w_ (f_ (h := w_ (l_ (h := w_ (bd (h := w_ (al (h := ?_)))))))))))))))))))
  refine w0 (s_ (h := wo_nil (e_ (h := aft_normal (wa_ (wa_ (wc_region (w_ (f_ (h := w_ (l_ (h := w_ (bE (h := wo_nil (e_ (h := aft_normal (?_)))))))))))))))))
  refine c_ (h1 := ?_) (h2 := ?_)
  rotate_right 1
  focus
   intro c1
   first
   | exact dn c1
   | (have d1 := c1; try simp at d1
      refine wc_skip (?_)
      )
  rotate_right 1
  focus
   intro c1
   first
   | exact dn c1
   | (have d1 := c1; try simp at d1
      refine wc_region (w_ (f_ (h := w_ (l_ (h := w_ (f_ (h := w0 (s_ (h := wo_nil (e_ (h := ?_)))))))))))
      )
  all_goals first
  | (refine aft_normal ?_
     refine wa_ (wa_ (wc_region (w_ (f_ (h := w_ (l_ (h := w_ (ca (hc := e_two _) (h := wo_nil (e_ (h := aft_normal (?_))))))))))))
     refine c_ (h1 := ?_) (h2 := ?_)
     rotate_right 1
     focus
      intro c2
      first
      | exact dn c2
      | (have d2 := c2; try simp at d2
         refine wc_skip (?_)
         )
     rotate_right 1
     focus
      intro c2
      first
      | exact dn c2
      | (have d2 := c2; try simp at d2
         refine wc_region (w_ (f_ (h := w_ (l_ (h := w_ (f_ (h := w0 (s_ (h := wo_nil (e_ (h := ?_)))))))))))
         )
     all_goals first
     | (refine aft_normal ?_
        refine wa_ (wa_ (wc_region (w_ (f_ (h := w_ (l_ (h := wo_nil (e_ (h := aft_normal (wc_block (wa_ (wa_ (wc_region (w_ (bE (h := ?_))))))))))))))))
        refine w_ (a_ (h := wo_nil (e_ (h := aft_normal (?_)))))
        refine c_ (h1 := ?_) (h2 := ?_)
        rotate_right 1
        focus
         intro c3
         first
         | exact dn c3
         | (have d3 := c3; try simp at d3
            refine wa_ (wc_region (w_ (bE (h := w_ (a_ (h := wo_nil (e_ (h := aft_normal (?_)))))))))
            refine c_ (h1 := ?_) (h2 := ?_)
            rotate_right 1
            focus
             intro c4
             first
             | exact dn c4
             | (have d4 := c4; try simp at d4
                refine wa_ (wc_region (w_ (bE (h := w_ (a_ (h := wo_nil (e_ (h := aft_normal (?_)))))))))
                refine c_ (h1 := ?_) (h2 := ?_)
                rotate_right 1
                focus
                 intro c5
                 first
                 | exact dn c5
                 | (have d5 := c5; try simp at d5
                    refine wa_ (wc_region (w_ (bE (h := w_ (a_ (h := wo_nil (e_ (h := aft_normal (?_)))))))))
                    refine c_ (h1 := ?_) (h2 := ?_)
                    rotate_right 1
                    focus
                     intro c6
                     first
                     | exact dn c6
                     | (have d6 := c6; try simp at d6
                        refine wa_ (wc_region (w_ (bE (h := w_ (a_ (h := wo_nil (e_ (h := aft_normal (?_)))))))))
                        refine c_ (h1 := ?_) (h2 := ?_)
                        rotate_right 1
                        focus
                         intro c7
                         first
                         | exact dn c7
                         | (have d7 := c7; try simp at d7
                            refine wc_region (w_ (bE (h := w_ (a_ (h := wo_nil (e_ (h := ?_)))))))
                            )
                        rotate_right 1
                        focus
                         intro c7
                         first
                         | exact dn c7
                         | (have d7 := c7; try simp at d7
                            refine wc_skip (?_)
                            )
                        )
                    rotate_right 1
                    focus
                     intro c6
                     first
                     | exact dn c6
                     | (have d6 := c6; try simp at d6
                        refine wc_skip (?_)
                        )
                    )
                rotate_right 1
                focus
                 intro c5
                 first
                 | exact dn c5
                 | (have d5 := c5; try simp at d5
                    refine wc_skip (?_)
                    )
                )
            rotate_right 1
            focus
             intro c4
             first
             | exact dn c4
             | (have d4 := c4; try simp at d4
                refine wc_skip (?_)
                )
            )
        rotate_right 1
        focus
         intro c3
         first
         | exact dn c3
         | (have d3 := c3; try simp at d3
            refine wc_skip (?_)
            )
        all_goals first
        | (refine aft_normal ?_
           refine c_ (h1 := ?_) (h2 := ?_)
           rotate_right 1
           focus
            intro c8
            first
            | exact dn c8
            | (have d8 := c8; try simp at d8
               refine wa_ (wc_region (w_ (bE (h := w_ (a_ (h := wo_nil (e_ (h := aft_normal (?_)))))))))
               refine c_ (h1 := ?_) (h2 := ?_)
               rotate_right 1
               focus
                intro c9
                first
                | exact dn c9
                | (have d9 := c9; try simp at d9
                   refine wa_ (wc_region (w_ (bE (h := w_ (a_ (h := wo_nil (e_ (h := aft_normal (?_)))))))))
                   refine c_ (h1 := ?_) (h2 := ?_)
                   rotate_right 1
                   focus
                    intro c10
                    first
                    | exact dn c10
                    | (have d10 := c10; try simp at d10
                       refine wc_skip (?_)
                       )
                   rotate_right 1
                   focus
                    intro c10
                    first
                    | exact dn c10
                    | (have d10 := c10; try simp at d10
                       refine wc_region (w_ (f_ (h := w_ (l_ (h := w_ (f_ (h := w0 (s_ (h := wo_nil (e_ (h := ?_)))))))))))
                       )
                   )
               rotate_right 1
               focus
                intro c9
                first
                | exact dn c9
                | (have d9 := c9; try simp at d9
                   refine wc_draw (y_ (f_ (h := ax_ (h := y_ (l_ (h := ax_ (h := y_ (f_ (h := ax_ (h := y_ (l_ (h := ax_ (h := y_ (f_ (h := ax_ (h := y_ (l_ (h := ax_ (h := y_ (f_ (h := ax_ (h := y0 (s_ (h := ax_ (h := y_ (f_ (h := ax_ (h := y0 (s_ (h := ax_ (h := y_ (f_ (h := ax_ (h := ?_))))))))))))))))))))))))))))))))))
                   refine y0 (s_ (h := ax_ (h := wo_nil (ed (h := ?_)))))
                   )
               )
           rotate_right 1
           focus
            intro c8
            first
            | exact dn c8
            | (have d8 := c8; try simp at d8
               refine wc_region (w_ (f_ (h := w_ (l_ (h := w_ (f_ (h := w0 (s_ (h := wo_nil (e_ (h := ?_)))))))))))
               )
           )
        all_goals refine blk_normal ?_
        all_goals first
        | (refine aft_normal ?_
           refine wa_ (wc_region (w_ (l_ (h := w0 (s_ (h := wo_nil (e_ (h := aft_normal (wc_ret (?_))))))))))
           )
        )
     )
  all_goals (refine fin_ (hr := (res_cell (tys_ok.zero _ _ rfl) rfl (by simp; rfl) (by rfl) res_nil)) (h := ?_); (focus (simp [Nd.v, plainN]; grind)))
theorem e_plain (z : Nat) (d : Nd) (h : d.op ≠ 3) : oc.call 169 [d.v false z] = some ((plainN d).v true 1, []) := by
  refine fun_s rfl cd169 rfl rfl rfl (by simp; rfl) (by simp; rfl) ?_
  refine wa_ (wc_region (w_ (bx (h := w_ (al (h := wo_nil (e_ (h := aft_normal (wa_ (wc_region (w_ (f_ (h := w_ (l_ (h := w_ (bd (h := w_ (al (h := ?_)))))))))))))))))))
  refine w0 (s_ (h := wo_nil (e_ (h := aft_normal (wa_ (wa_ (wc_region (w_ (f_ (h := w_ (l_ (h := w_ (bE (h := wo_nil (e_ (h := aft_normal (?_)))))))))))))))))
  refine c_ (h1 := ?_) (h2 := ?_)
  rotate_right 1
  focus
   intro c1
   first
   | exact dn c1
   | (have d1 := c1; try simp at d1
      refine wc_skip (?_)
      )
  rotate_right 1
  focus
   intro c1
   first
   | exact dn c1
   | (have d1 := c1; try simp at d1
      refine wc_region (w_ (f_ (h := w_ (l_ (h := w_ (f_ (h := w0 (s_ (h := wo_nil (e_ (h := ?_)))))))))))
      )
  all_goals first
  | (refine aft_normal ?_
     refine wa_ (wa_ (wc_region (w_ (f_ (h := w_ (l_ (h := w_ (ca (hc := e_two _) (h := wo_nil (e_ (h := aft_normal (?_))))))))))))
     refine c_ (h1 := ?_) (h2 := ?_)
     rotate_right 1
     focus
      intro c2
      first
      | exact dn c2
      | (have d2 := c2; try simp at d2
         refine wc_skip (?_)
         )
     rotate_right 1
     focus
      intro c2
      first
      | exact dn c2
      | (have d2 := c2; try simp at d2
         refine wc_region (w_ (f_ (h := w_ (l_ (h := w_ (f_ (h := w0 (s_ (h := wo_nil (e_ (h := ?_)))))))))))
         )
     all_goals first
     | (refine aft_normal ?_
        refine wa_ (wa_ (wc_region (w_ (f_ (h := w_ (l_ (h := wo_nil (e_ (h := aft_normal (wc_block (wa_ (wa_ (wc_region (w_ (bE (h := ?_))))))))))))))))
        refine w_ (a_ (h := wo_nil (e_ (h := aft_normal (?_)))))
        refine c_ (h1 := ?_) (h2 := ?_)
        rotate_right 1
        focus
         intro c3
         first
         | exact dn c3
         | (have d3 := c3; try simp at d3
            refine wa_ (wc_region (w_ (bE (h := w_ (a_ (h := wo_nil (e_ (h := aft_normal (?_)))))))))
            refine c_ (h1 := ?_) (h2 := ?_)
            rotate_right 1
            focus
             intro c4
             first
             | exact dn c4
             | (have d4 := c4; try simp at d4
                refine wa_ (wc_region (w_ (bE (h := w_ (a_ (h := wo_nil (e_ (h := aft_normal (?_)))))))))
                refine c_ (h1 := ?_) (h2 := ?_)
                rotate_right 1
                focus
                 intro c5
                 first
                 | exact dn c5
                 | (have d5 := c5; try simp at d5
                    refine wa_ (wc_region (w_ (bE (h := w_ (a_ (h := wo_nil (e_ (h := aft_normal (?_)))))))))
                    refine c_ (h1 := ?_) (h2 := ?_)
                    rotate_right 1
                    focus
                     intro c6
                     first
                     | exact dn c6
                     | (have d6 := c6; try simp at d6
                        refine wa_ (wc_region (w_ (bE (h := w_ (a_ (h := wo_nil (e_ (h := aft_normal (?_)))))))))
                        refine c_ (h1 := ?_) (h2 := ?_)
                        rotate_right 1
                        focus
                         intro c7
                         first
                         | exact dn c7
                         | (have d7 := c7; try simp at d7
                            refine wc_region (w_ (bE (h := w_ (a_ (h := wo_nil (e_ (h := ?_)))))))
                            )
                        rotate_right 1
                        focus
                         intro c7
                         first
                         | exact dn c7
                         | (have d7 := c7; try simp at d7
                            refine wc_skip (?_)
                            )
                        )
                    rotate_right 1
                    focus
                     intro c6
                     first
                     | exact dn c6
                     | (have d6 := c6; try simp at d6
                        refine wc_skip (?_)
                        )
                    )
                rotate_right 1
                focus
                 intro c5
                 first
                 | exact dn c5
                 | (have d5 := c5; try simp at d5
                    refine wc_skip (?_)
                    )
                )
            rotate_right 1
            focus
             intro c4
             first
             | exact dn c4
             | (have d4 := c4; try simp at d4
                refine wc_skip (?_)
                )
            )
        rotate_right 1
        focus
         intro c3
         first
         | exact dn c3
         | (have d3 := c3; try simp at d3
            refine wc_skip (?_)
            )
        all_goals first
        | (refine aft_normal ?_
           refine c_ (h1 := ?_) (h2 := ?_)
           rotate_right 1
           focus
            intro c8
            first
            | exact dn c8
            | (have d8 := c8; try simp at d8
               refine wa_ (wc_region (w_ (bE (h := w_ (a_ (h := wo_nil (e_ (h := aft_normal (?_)))))))))
               refine c_ (h1 := ?_) (h2 := ?_)
               rotate_right 1
               focus
                intro c9
                first
                | exact dn c9
                | (have d9 := c9; try simp at d9
                   refine wa_ (wc_region (w_ (bE (h := w_ (a_ (h := wo_nil (e_ (h := aft_normal (?_)))))))))
                   refine c_ (h1 := ?_) (h2 := ?_)
                   rotate_right 1
                   focus
                    intro c10
                    first
                    | exact dn c10
                    | (have d10 := c10; try simp at d10
                       refine wc_skip (?_)
                       )
                   rotate_right 1
                   focus
                    intro c10
                    first
                    | exact dn c10
                    | (have d10 := c10; try simp at d10
                       refine wc_region (w_ (f_ (h := w_ (l_ (h := w_ (f_ (h := w0 (s_ (h := wo_nil (e_ (h := ?_)))))))))))
                       )
                   )
               rotate_right 1
               focus
                intro c9
                first
                | exact dn c9
                | (have d9 := c9; try simp at d9
                   refine wc_draw (y_ (f_ (h := ax_ (h := y_ (l_ (h := ax_ (h := y_ (f_ (h := ax_ (h := y_ (l_ (h := ax_ (h := y_ (f_ (h := ax_ (h := y_ (l_ (h := ax_ (h := y_ (f_ (h := ax_ (h := y0 (s_ (h := ax_ (h := y_ (f_ (h := ax_ (h := y0 (s_ (h := ax_ (h := y_ (f_ (h := ax_ (h := ?_))))))))))))))))))))))))))))))))))
                   refine y0 (s_ (h := ax_ (h := wo_nil (ed (h := ?_)))))
                   )
               )
           rotate_right 1
           focus
            intro c8
            first
            | exact dn c8
            | (have d8 := c8; try simp at d8
               refine wc_region (w_ (f_ (h := w_ (l_ (h := w_ (f_ (h := w0 (s_ (h := wo_nil (e_ (h := ?_)))))))))))
               )
           )
        all_goals refine blk_normal ?_
        all_goals first
        | (refine aft_normal ?_
           refine wa_ (wc_region (w_ (l_ (h := w0 (s_ (h := wo_nil (e_ (h := aft_normal (wc_ret (?_))))))))))
           )
        )
     )
  all_goals (refine fin_ (hr := (res_cell (tys_ok.zero _ _ rfl) rfl (by simp; rfl) (by rfl) res_nil)) (h := ?_); (focus (simp [Nd.v, plainN, h]; grind)))
def at0 (w : List Int) (a : Int) : Int := w.getD a.toNat 0
theorem ints_ix {w : List Int} {a : Int} (h0 : 0 ≤ a) (h : a < w.length) : (ints w)[a.toNat]? = some (.int .i64 (at0 w a)) := by
  have : a.toNat < w.length := by omega
  simp [ints, at0, this]
def widthN (d : Nd) (w : List Int) : Int :=
  if d.op = 1 then d.col else if d.op = 3 then d.cells.length else if d.op = 6 then IntKind.i64.wrap (IntKind.i64.wrap (at0 w d.a + at0 w d.b) - d.col) else if inI d.op 7 10 then IntKind.i64.wrap (d.col + 1) else at0 w d.a
def fitN (d : Nd) (m : Nat) : Prop := (d.op ≠ 1 → 0 ≤ d.a ∧ d.a < m) ∧ (d.op = 4 ∨ d.op = 6 → 0 ≤ d.b ∧ d.b < m)
theorem e_width (z z' : Nat) (d : Nd) (w : List Int) (hd : d.cells.length < 4000000) (h : fitN d w.length) : oc.call 172 [d.v false z, .lst false z' (ints w)] = some (.int .i64 (widthN d w), []) := by
  refine fun_s rfl cd172 rfl rfl rfl (by simp; rfl) (by simp; rfl) ?_
  obtain ⟨h1, h2⟩ := h
  refine wa_ (wc_region (w_ (bx (h := w_ (a_ (h := wo_nil (e_ (h := aft_normal (wa_ (wc_block (wa_ (wc_region (w_ (f_ (h := w_ (l_ (h := ?_)))))))))))))))))
  refine w_ (bE (h := w_ (a_ (h := wo_nil (e_ (h := aft_normal (?_)))))))
  refine c_ (h1 := ?_) (h2 := ?_)
  rotate_right 1
  focus
   intro c1
   first
   | exact dn c1
   | (have d1 := c1; try simp at d1
      refine wa_ (wc_region (w_ (f_ (h := w_ (l_ (h := w_ (bE (h := w_ (a_ (h := wo_nil (e_ (h := aft_normal (?_)))))))))))))
      refine c_ (h1 := ?_) (h2 := ?_)
      rotate_right 1
      focus
       intro c2
       first
       | exact dn c2
       | (have d2 := c2; try simp at d2
          refine wa_ (wc_region (w_ (f_ (h := w_ (l_ (h := w_ (bE (h := w_ (a_ (h := wo_nil (e_ (h := aft_normal (?_)))))))))))))
          refine c_ (h1 := ?_) (h2 := ?_)
          rotate_right 1
          focus
           intro c3
           first
           | exact dn c3
           | (have d3 := c3; try simp at d3
              refine wa_ (wc_region (w_ (f_ (h := w_ (l_ (h := w_ (ca (hc := e_grouped _) (h := w_ (a_ (h := wo_nil (e_ (h := aft_normal (?_)))))))))))))
              refine c_ (h1 := ?_) (h2 := ?_)
              rotate_right 1
              focus
               intro c4
               first
               | exact dn c4
               | (have d4 := c4; try simp at d4
                  have h3 := (h1 (by omega)).1; have h4 := (h1 (by omega)).2; have g1 := ints_ix h3 h4
                  refine wc_skip (?_)
                  )
              rotate_right 1
              focus
               intro c4
               first
               | exact dn c4
               | (have d4 := c4; try simp at d4
                  refine wa_ (wc_region (w_ (f_ (h := w_ (l_ (h := w_ (b_ (h := w_ (a_ (h := wo_nil (e_ (h := aft_normal (wc_ret (?_))))))))))))))
                  )
              )
          rotate_right 1
          focus
           intro c3
           first
           | exact dn c3
           | (have d3 := c3; try simp at d3
              obtain ⟨h3, h4⟩ := h1 (by omega); obtain ⟨h5, h6⟩ := h2 (by omega); have g1 := ints_ix h3 h4; have g2 := ints_ix h5 h6
              refine wa_ (wc_draw (y_ (m_ (h := ax_ (h := y_ (f_ (h := ax_ (h := y_ (l_ (h := ax_ (h := y_ (x_ (h := ax_ (h := y_ (l_ (h := ax_ (h := y_ (m_ (h := ax_ (h := y_ (f_ (h := ax_ (h := y_ (l_ (h := ax_ (h := y_ (x_ (h := ax_ (h := y_ (l_ (h := ax_ (h := ?_))))))))))))))))))))))))))))))))
              refine y_ (b_ (h := ax_ (h := y_ (f_ (h := ax_ (h := y_ (l_ (h := ax_ (h := y_ (b_ (h := ax_ (h := y_ (a_ (h := ax_ (h := wo_nil (ed (h := aft_normal (wc_ret (?_)))))))))))))))))))
              )
          )
      rotate_right 1
      focus
       intro c2
       first
       | exact dn c2
       | (have d2 := c2; try simp at d2
          refine wa_ (wc_region (w_ (f_ (h := w_ (l_ (h := w_ (ca (hc := e_size 0 (ints d.cells) (by simp; omega)) (h := w_ (a_ (h := wo_nil (e_ (h := aft_normal (wc_ret (?_))))))))))))))
          )
      )
  rotate_right 1
  focus
   intro c1
   first
   | exact dn c1
   | (have d1 := c1; try simp at d1
      refine wa_ (wc_region (w_ (f_ (h := w_ (l_ (h := w_ (a_ (h := wo_nil (e_ (h := aft_normal (wc_ret (?_))))))))))))
      )
  all_goals first | refine blk_normal ?_ | refine blk_ret ?_
  all_goals first
  | refine aft_ret ?_
  | (refine aft_normal ?_
     refine wa_ (wc_region (w_ (m_ (h := w_ (f_ (h := w_ (l_ (h := w_ (x_ (h := w_ (l_ (h := w_ (a_ (h := wo_nil (e_ (h := aft_normal (wc_ret (?_))))))))))))))))))
     )
  all_goals (refine fin_ (hr := (res_tmp rfl res_nil)) (h := ?_); (focus (simp [widthN]; grind [inI])))
def faultN (d : Nd) (w : List Int) : Int :=
  if d.op = 1 then (if inI d.col 1 3 then 0 else 3)
  else if d.op = 2 then (if inI d.col 0 (IntKind.i64.wrap (at0 w d.a - 1)) && (inI d.test 0 2 && inI d.value (-1000000000) 1000000000) then 0 else 3)
  else if d.op = 3 then (if inI d.cells.length 1 4 then (if d.cells.all fun c => inI c 0 (IntKind.i64.wrap (at0 w d.a - 1)) then 0 else 3) else 2)
  else if d.op = 4 then (if at0 w d.a = at0 w d.b then 0 else 1)
  else if d.op = 6 then (if inI d.col 1 (min (at0 w d.a) (at0 w d.b)) then (if 4 < widthN d w then 2 else 0) else 3)
  else if d.op = 7 then (if inI d.col 0 (min (at0 w d.a) 3) then 0 else 3)
  else if 8 ≤ d.op ∧ d.op ≤ 10 then (if inI d.col 0 (IntKind.i64.wrap (at0 w d.a - 1)) then 0 else 3)
  else 0
theorem l_cells (z z' : Nat) (d : Nd) (w : List Int) (hd : d.cells.length < 4000000) (h0 : 0 ≤ d.a) (h1 : d.a < w.length) : ∀ i : Nat, i ≤ d.cells.length → ∀ s, normE 2 (some [1, 2, 47, 48, 49]) s = ⟨[(1, .lst false z' (ints w)), (2, .ptr 2 0 []), (47, .lst false z (ints d.cells)), (48, .int .i64 d.cells.length), (49, .int .i64 i)], [(2, ⟨true, false, 7, [d.v false z], 0⟩)], 3⟩ →
    oc.loop 171 12 s = some (if ((d.cells.drop i).all fun c => inI c 0 (IntKind.i64.wrap (at0 w d.a - 1))) = true then (.exit 1, ⟨[], [], 2⟩) else (.ret, ⟨[(4, .int .i64 3)], [], 2⟩)) := by
  refine loop_ind (fun i => d.cells.length - i) _ (fun i => ⟨[(1, .lst false z' (ints w)), (2, .ptr 2 0 []), (47, .lst false z (ints d.cells)), (48, .int .i64 d.cells.length), (49, .int .i64 i)], [(2, ⟨true, false, 7, [d.v false z], 0⟩)], 3⟩) _ ?_
  intro i hi ih s hs
  refine loop_s cd171 rfl rfl hs ?_
  refine wa_ (wc_region (w_ (b_ (h := wo_nil (e_ (h := aft_normal (wa_ (?_))))))))
  refine c_ (h1 := ?_) (h2 := ?_)
  rotate_right 1
  focus
   intro c1
   simp at c1; have : i = d.cells.length := (by omega); subst this
   refine wc_exit (?_)
  rotate_right 1
  focus
   intro c1
   simp at c1; have hw := wrap_succ (i := i) (by omega); obtain ⟨x, _, d1, g1⟩ := ints_cut c1; have g2 := ints_ix h0 h1
   refine wc_skip (?_)
  all_goals first
  | refine aft_exit ?_
  | (refine aft_normal ?_
     refine wa_ (wc_block (wa_ (wc_region (w_ (x_ (h := w_ (l_ (h := w_ (a_ (h := wo_nil (e_ (h := aft_normal (wa_ (wc_region (w_ (m_ (h := ?_)))))))))))))))))
     refine w_ (m_ (h := w_ (f_ (h := w_ (l_ (h := w_ (x_ (h := w_ (l_ (h := w_ (b_ (h := w_ (ca (hc := e_in _ _ _) (h := w_ (u_ (h := wo_nil (e_ (h := aft_normal (?_)))))))))))))))))))
     refine c_ (h1 := ?_) (h2 := ?_)
     rotate_right 1
     focus
      intro c2
      refine wc_skip (?_)
     rotate_right 1
     focus
      intro c2
      refine wa_ (wc_region (w_ (a_ (h := wo_nil (e_ (h := aft_normal (wc_ret (?_))))))))
     all_goals first | refine blk_normal ?_ | refine blk_ret ?_
     all_goals first
     | refine aft_ret ?_
     | (refine aft_normal ?_
        refine wc_region (w_ (b_ (h := w_ (m_ (h := wo_nil (e_ (h := ?_)))))))
        )
     )
  all_goals first
  | (refine (ih (i + 1) (by omega) ?_ _ ?_).trans ?_; (focus (first | omega | (simp; done) | (simp; omega))); (focus (simp [normE, hw]; done)); (focus (rw [d1]; simp at c2 ⊢; grind)))
  | (apply end_leaf (ex := Ext.ret) 2 (some [4]); (focus (simp [normE]; rfl)); (focus (rw [d1]; simp at c2 ⊢; grind)))
  | (apply end_leaf (ex := (Ext.exit 1)) 2 (some [4]); (focus (simp [normE]; rfl)); (focus (simp)))
theorem e_fault (z z' : Nat) (d : Nd) (w : List Int) (hd : d.cells.length < 4000000) (h : fitN d w.length) (ho : 1 ≤ d.op ∧ d.op ≤ 12) : oc.call 171 [d.v false z, .lst false z' (ints w)] = some (.int .i64 (faultN d w), []) := by
  refine fun_s rfl cd171 rfl rfl rfl (by simp; rfl) (by simp; rfl) ?_
  obtain ⟨k1, k2⟩ := h
  refine wa_ (wc_region (w_ (bx (h := w_ (a_ (h := wo_nil (e_ (h := aft_normal (wa_ (wa_ (wc_region (w_ (f_ (h := w_ (l_ (h := wo_nil (e_ (h := ?_))))))))))))))))))
  refine aft_normal (wc_block (wa_ (wc_region (w_ (bE (h := w_ (a_ (h := wo_nil (e_ (h := aft_normal (?_)))))))))))
  refine c_ (h1 := ?_) (h2 := ?_)
  rotate_right 1
  focus
   intro c1
   first
   | exact dn c1
   | (have d1 := c1; try simp at d1
      refine wa_ (wc_region (w_ (bE (h := w_ (a_ (h := wo_nil (e_ (h := aft_normal (?_)))))))))
      refine c_ (h1 := ?_) (h2 := ?_)
      rotate_right 1
      focus
       intro c2
       first
       | exact dn c2
       | (have d2 := c2; try simp at d2
          refine wa_ (wc_region (w_ (bE (h := w_ (a_ (h := wo_nil (e_ (h := aft_normal (?_)))))))))
          refine c_ (h1 := ?_) (h2 := ?_)
          rotate_right 1
          focus
           intro c3
           first
           | exact dn c3
           | (have d3 := c3; try simp at d3
              refine wa_ (wc_region (w_ (bE (h := w_ (a_ (h := wo_nil (e_ (h := aft_normal (?_)))))))))
              refine c_ (h1 := ?_) (h2 := ?_)
              rotate_right 1
              focus
               intro c4
               first
               | exact dn c4
               | (have d4 := c4; try simp at d4
                  refine wa_ (wc_region (w_ (bE (h := w_ (a_ (h := wo_nil (e_ (h := aft_normal (?_)))))))))
                  refine c_ (h1 := ?_) (h2 := ?_)
                  rotate_right 1
                  focus
                   intro c5
                   first
                   | exact dn c5
                   | (have d5 := c5; try simp at d5
                      refine wa_ (wc_region (w_ (bE (h := w_ (a_ (h := wo_nil (e_ (h := aft_normal (?_)))))))))
                      refine c_ (h1 := ?_) (h2 := ?_)
                      rotate_right 1
                      focus
                       intro c6
                       first
                       | exact dn c6
                       | (have d6 := c6; try simp at d6
                          refine wa_ (wa_ (wc_region (w_ (bE (h := w_ (a_ (h := wo_nil (e_ (h := aft_normal (?_))))))))))
                          refine c_ (h1 := ?_) (h2 := ?_)
                          rotate_right 1
                          focus
                           intro c7
                           first
                           | exact dn c7
                           | (have d7 := c7; try simp at d7
                              refine wa_ (wc_region (w_ (bE (h := w_ (a_ (h := wo_nil (e_ (h := aft_normal (?_)))))))))
                              refine c_ (h1 := ?_) (h2 := ?_)
                              rotate_right 1
                              focus
                               intro c8
                               first
                               | exact dn c8
                               | (have d8 := c8; try simp at d8
                                  refine wc_region (w_ (bE (h := w_ (a_ (h := wo_nil (e_ (h := ?_)))))))
                                  )
                              rotate_right 1
                              focus
                               intro c8
                               first
                               | exact dn c8
                               | (have d8 := c8; try simp at d8
                                  refine wc_skip (?_)
                                  )
                              )
                          rotate_right 1
                          focus
                           intro c7
                           first
                           | exact dn c7
                           | (have d7 := c7; try simp at d7
                              refine wc_skip (?_)
                              )
                          all_goals first
                          | (refine aft_normal ?_
                             refine c_ (h1 := ?_) (h2 := ?_)
                             rotate_right 1
                             focus
                              intro c9
                              first
                              | exact dn c9
                              | (have d9 := c9; try simp at d9
                                 refine wc_skip (?_)
                                 )
                             rotate_right 1
                             focus
                              intro c9
                              first
                              | exact dn c9
                              | (have d9 := c9; try simp at d9
                                 obtain ⟨h3, h4⟩ := k1 (by omega); have g1 := ints_ix h3 h4
                                 refine wa_ (wc_draw (y_ (f_ (h := ax_ (h := y_ (l_ (h := ax_ (h := y_ (m_ (h := ax_ (h := y_ (f_ (h := ax_ (h := y_ (l_ (h := ax_ (h := y_ (x_ (h := ax_ (h := y_ (l_ (h := ax_ (h := y_ (b_ (h := ax_ (h := y_ (ca (hc := e_in _ _ _) (h := ax_ (h := y_ (u_ (h := ax_ (h := ?_))))))))))))))))))))))))))))))))
                                 refine wo_nil (ed (h := aft_normal (?_)))
                                 refine c_ (h1 := ?_) (h2 := ?_)
                                 rotate_right 1
                                 focus
                                  intro c10
                                  first
                                  | exact dn c10
                                  | (have d10 := c10; try simp at d10
                                     refine wc_skip (?_)
                                     )
                                 rotate_right 1
                                 focus
                                  intro c10
                                  first
                                  | exact dn c10
                                  | (have d10 := c10; try simp at d10
                                     refine wa_ (wc_region (w_ (a_ (h := wo_nil (e_ (h := aft_normal (wc_ret (?_))))))))
                                     )
                                 )
                             )
                          )
                      rotate_right 1
                      focus
                       intro c6
                       first
                       | exact dn c6
                       | (have d6 := c6; try simp at d6
                          obtain ⟨h3, h4⟩ := k1 (by omega); have g1 := ints_ix h3 h4
                          refine wa_ (wc_draw (y_ (f_ (h := ax_ (h := y_ (l_ (h := ax_ (h := y_ (m_ (h := ax_ (h := y_ (f_ (h := ax_ (h := y_ (l_ (h := ax_ (h := y_ (x_ (h := ax_ (h := y_ (l_ (h := ax_ (h := y_ (mi (h := ax_ (h := y_ (ca (hc := e_in _ _ _) (h := ax_ (h := y_ (u_ (h := ax_ (h := ?_))))))))))))))))))))))))))))))))
                          refine wo_nil (ed (h := aft_normal (?_)))
                          refine c_ (h1 := ?_) (h2 := ?_)
                          rotate_right 1
                          focus
                           intro c11
                           first
                           | exact dn c11
                           | (have d11 := c11; try simp at d11
                              refine wc_skip (?_)
                              )
                          rotate_right 1
                          focus
                           intro c11
                           first
                           | exact dn c11
                           | (have d11 := c11; try simp at d11
                              refine wa_ (wc_region (w_ (a_ (h := wo_nil (e_ (h := aft_normal (wc_ret (?_))))))))
                              )
                          )
                      )
                  rotate_right 1
                  focus
                   intro c5
                   first
                   | exact dn c5
                   | (have d5 := c5; try simp at d5
                      obtain ⟨h3, h4⟩ := k1 (by omega); have g1 := ints_ix h3 h4; obtain ⟨h5, h6⟩ := k2 (by omega); have g2 := ints_ix h5 h6
                      refine wa_ (wa_ (wc_draw (y_ (f_ (h := ax_ (h := y_ (l_ (h := ax_ (h := y_ (m_ (h := ax_ (h := y_ (f_ (h := ax_ (h := y_ (l_ (h := ax_ (h := y_ (x_ (h := ax_ (h := y_ (l_ (h := ax_ (h := y_ (m_ (h := ax_ (h := y_ (f_ (h := ax_ (h := ?_))))))))))))))))))))))))))))))
                      refine y_ (l_ (h := ax_ (h := y_ (x_ (h := ax_ (h := y_ (l_ (h := ax_ (h := y_ (mi (h := ax_ (h := y_ (ca (hc := e_in _ _ _) (h := ax_ (h := y_ (u_ (h := ax_ (h := wo_nil (ed (h := aft_normal (?_)))))))))))))))))))))
                      refine c_ (h1 := ?_) (h2 := ?_)
                      rotate_right 1
                      focus
                       intro c12
                       first
                       | exact dn c12
                       | (have d12 := c12; try simp at d12
                          refine wc_skip (?_)
                          )
                      rotate_right 1
                      focus
                       intro c12
                       first
                       | exact dn c12
                       | (have d12 := c12; try simp at d12
                          refine wa_ (wc_region (w_ (a_ (h := wo_nil (e_ (h := aft_normal (wc_ret (?_))))))))
                          )
                      all_goals first
                      | refine aft_ret ?_
                      | (refine aft_normal ?_
                         refine wa_ (wc_region (w_ (l_ (h := w_ (m_ (h := w_ (ca (hc := e_width 0 0 d w hd ⟨k1, k2⟩) (h := w_ (b_ (h := wo_nil (e_ (h := aft_normal (?_)))))))))))))
                         refine c_ (h1 := ?_) (h2 := ?_)
                         rotate_right 1
                         focus
                          intro c13
                          first
                          | exact dn c13
                          | (have d13 := c13; try simp at d13
                             refine wc_skip (?_)
                             )
                         rotate_right 1
                         focus
                          intro c13
                          first
                          | exact dn c13
                          | (have d13 := c13; try simp at d13
                             refine wa_ (wc_region (w_ (a_ (h := wo_nil (e_ (h := aft_normal (wc_ret (?_))))))))
                             )
                         )
                      )
                  )
              rotate_right 1
              focus
               intro c4
               first
               | exact dn c4
               | (have d4 := c4; try simp at d4
                  obtain ⟨h3, h4⟩ := k1 (by omega); have g1 := ints_ix h3 h4; obtain ⟨h5, h6⟩ := k2 (by omega); have g2 := ints_ix h5 h6
                  refine wa_ (wc_draw (y_ (m_ (h := ax_ (h := y_ (f_ (h := ax_ (h := y_ (l_ (h := ax_ (h := y_ (x_ (h := ax_ (h := y_ (l_ (h := ax_ (h := y_ (m_ (h := ax_ (h := y_ (f_ (h := ax_ (h := y_ (l_ (h := ax_ (h := y_ (x_ (h := ax_ (h := y_ (l_ (h := ax_ (h := ?_))))))))))))))))))))))))))))))))
                  refine y_ (bE (h := ax_ (h := wo_nil (ed (h := aft_normal (?_))))))
                  refine c_ (h1 := ?_) (h2 := ?_)
                  rotate_right 1
                  focus
                   intro c14
                   first
                   | exact dn c14
                   | (have d14 := c14; try simp at d14
                      refine wc_skip (?_)
                      )
                  rotate_right 1
                  focus
                   intro c14
                   first
                   | exact dn c14
                   | (have d14 := c14; try simp at d14
                      refine wa_ (wc_region (w_ (a_ (h := wo_nil (e_ (h := aft_normal (wc_ret (?_))))))))
                      )
                  )
              )
          rotate_right 1
          focus
           intro c3
           first
           | exact dn c3
           | (have d3 := c3; try simp at d3
              obtain ⟨h3, h4⟩ := k1 (by omega); have g1 := ints_ix h3 h4
              refine wa_ (wa_ (wc_region (w_ (f_ (h := w_ (l_ (h := w_ (ca (hc := e_size 0 (ints d.cells) (by simp; omega)) (h := w_ (ca (hc := e_in _ _ _) (h := w_ (u_ (h := wo_nil (e_ (h := aft_normal (?_))))))))))))))))
              refine c_ (h1 := ?_) (h2 := ?_)
              rotate_right 1
              focus
               intro c15
               first
               | exact dn c15
               | (have d15 := c15; try simp at d15
                  refine wc_skip (?_)
                  )
              rotate_right 1
              focus
               intro c15
               first
               | exact dn c15
               | (have d15 := c15; try simp at d15
                  refine wa_ (wc_region (w_ (a_ (h := wo_nil (e_ (h := aft_normal (wc_ret (?_))))))))
                  )
              all_goals first
              | refine aft_ret ?_
              | (refine aft_normal ?_
                 refine wa_ (wc_region (w_ (f_ (h := w_ (l_ (h := w_ (le (h := w_ (m_ (h := wo_nil (e_ (h := aft_normal (wc_block (?_))))))))))))))
                 refine wc_loopI (l_cells z z' d w hd h3 h4 0 (by omega) _ (by simp [normE])) ?_ ?_
                 rotate_right 1
                 focus
                  intro c16
                  first
                  | exact dn c16
                  | (have d16 := c16; try simp at d16
                     skip
                     )
                 rotate_right 1
                 focus
                  intro c16
                  first
                  | exact dn c16
                  | (have d16 := c16; try simp at d16
                     skip
                     )
                 all_goals first | refine blk_ret ?_ | refine blk_exit ?_
                 )
              )
          )
      rotate_right 1
      focus
       intro c2
       first
       | exact dn c2
       | (have d2 := c2; try simp at d2
          obtain ⟨h3, h4⟩ := k1 (by omega); have g1 := ints_ix h3 h4
          refine wa_ (wc_draw (y_ (f_ (h := ax_ (h := y_ (l_ (h := ax_ (h := y_ (m_ (h := ax_ (h := y_ (f_ (h := ax_ (h := y_ (l_ (h := ax_ (h := y_ (x_ (h := ax_ (h := y_ (l_ (h := ax_ (h := y_ (b_ (h := ax_ (h := y_ (ca (hc := e_in _ _ _) (h := ax_ (h := y_ (u_ (h := ax_ (h := ?_))))))))))))))))))))))))))))))))
          refine y_ (m_ (h := ax_ (h := ?_)))
          refine gw_ (h1 := ?_) (h2 := ?_)
          rotate_right 1
          focus
           intro c17
           first
           | exact dn c17
           | (have d17 := c17; try simp at d17
              refine gd_ (h := gd_ (h := gd_ (h := gd_ (h := ?_))))
              )
          rotate_right 1
          focus
           intro c17
           first
           | exact dn c17
           | (have d17 := c17; try simp at d17
              refine g_ (h := y_ (f_ (h := ax_ (h := g_ (h := y_ (l_ (h := ax_ (h := g_ (h := y_ (ca (hc := e_in _ _ _) (h := ax_ (h := g_ (h := y_ (u_ (h := ax_ (h := ?_))))))))))))))))
              )
          all_goals
           refine y_ (pk (h := ax_ (h := y_ (m_ (h := ax_ (h := ?_))))))
           refine gw_ (h1 := ?_) (h2 := ?_)
           rotate_right 1
           focus
            intro c18
            first
            | exact dn c18
            | (have d18 := c18; try simp at d18
               refine gd_ (h := gd_ (h := gd_ (h := gd_ (h := ?_))))
               )
           rotate_right 1
           focus
            intro c18
            first
            | exact dn c18
            | (have d18 := c18; try simp at d18
               refine g_ (h := y_ (f_ (h := ax_ (h := g_ (h := y_ (l_ (h := ax_ (h := g_ (h := y_ (ca (hc := e_in _ _ _) (h := ax_ (h := g_ (h := y_ (u_ (h := ax_ (h := ?_))))))))))))))))
               )
           all_goals
            refine y_ (pk (h := ax_ (h := wo_nil (ed (h := ?_)))))
          all_goals first
          | (refine aft_normal ?_
             refine c_ (h1 := ?_) (h2 := ?_)
             rotate_right 1
             focus
              intro c19
              first
              | exact dn c19
              | (have d19 := c19; try simp at d19
                 refine wc_skip (?_)
                 )
             rotate_right 1
             focus
              intro c19
              first
              | exact dn c19
              | (have d19 := c19; try simp at d19
                 refine wa_ (wc_region (w_ (a_ (h := wo_nil (e_ (h := aft_normal (wc_ret (?_))))))))
                 )
             )
          )
      )
  rotate_right 1
  focus
   intro c1
   first
   | exact dn c1
   | (have d1 := c1; try simp at d1
      refine wa_ (wc_region (w_ (f_ (h := w_ (l_ (h := w_ (ca (hc := e_in _ _ _) (h := w_ (u_ (h := wo_nil (e_ (h := aft_normal (?_)))))))))))))
      refine c_ (h1 := ?_) (h2 := ?_)
      rotate_right 1
      focus
       intro c20
       first
       | exact dn c20
       | (have d20 := c20; try simp at d20
          refine wc_skip (?_)
          )
      rotate_right 1
      focus
       intro c20
       first
       | exact dn c20
       | (have d20 := c20; try simp at d20
          refine wa_ (wc_region (w_ (a_ (h := wo_nil (e_ (h := aft_normal (wc_ret (?_))))))))
          )
      )
  all_goals first | refine blk_normal ?_ | refine blk_ret ?_
  all_goals first
  | refine aft_ret ?_
  | (refine aft_normal ?_
     refine wa_ (wc_region (w_ (a_ (h := wo_nil (e_ (h := aft_normal (wc_ret (?_))))))))
     )
  all_goals (refine fin_ (hr := (res_tmp rfl res_nil)) (h := ?_); (focus (simp [faultN]; grind)))
end Go.Proofs.Ytgkbmiaimjpbfaa.Ev
namespace Go.Proofs.Ytgkbmiaimjpbfaa.Ev
open Go
set_option maxRecDepth 100000
set_option linter.unusedSimpArgs false
set_option linter.unusedVariables false
set_option maxHeartbeats 2000000
def opAt (l : List Nd) (a : Int) : Int := (l[a.toNat]?).elim 0 Nd.op
theorem nds_ix {t : Bool} {s : Nat} {l : List Nd} {a : Int} (h0 : 0 ≤ a) (h : a < l.length) : ∃ d, (nds t s l)[a.toNat]? = some (Nd.v t s d) ∧ opAt l a = Nd.op d := by
  have : a.toNat < l.length := by omega
  exact ⟨l[a.toNat], by simp [nds, this], by simp [opAt, this]⟩
def okR (pl : List Nd) (i : Nat) (k : Int) : Bool := inI k 0 (IntKind.i64.wrap ((i : Int) - 1)) && !decide (opAt pl k = 12)
theorem l_reads (pl : List Nd) (out rs : List Int) (d : Nd) (i : Nat) (hp : pl.length < 2000000) (hi : i ≤ pl.length) (hr : rs.length < 10) : ∀ j : Nat, j ≤ rs.length → ∀ s, normE 1 (some [0, 4, 5, 6, 15, 16, 17, 34, 35, 36]) s = ⟨[(0, .lst false 0 (nds false 0 pl)), (4, .ref 1 0 out.length), (5, .int .i64 i), (6, .ptr 2 0 []), (15, .lst false 0 (nds false 0 pl)), (16, .int .i64 pl.length), (17, .int .i64 i), (34, .ref 3 0 rs.length), (35, .int .i64 rs.length), (36, .int .i64 j)], [(1, ⟨false, false, 1, ints out, 0⟩), (2, ⟨true, false, 7, [d.v false 0], 0⟩), (3, ⟨false, false, 1, ints rs, 0⟩)], 4⟩ →
    oc.loop 90 12 s = some (if (rs.drop j).all (okR pl i) = true then (.exit 3, ⟨[(0, .lst false 0 (nds false 0 pl)), (4, .ref 1 0 out.length), (6, .ptr 2 0 []), (15, .lst false 0 (nds false 0 pl)), (16, .int .i64 pl.length), (17, .int .i64 i)], [(1, ⟨false, false, 1, ints out, 0⟩), (2, ⟨true, false, 7, [d.v false 0], 0⟩)], 3⟩)
      else (.ret, ⟨[(0, .lst false 0 (nds false 0 pl)), (2, .lst true 1 []), (3, .int .i64 3), (4, .ref 1 0 out.length), (6, .ptr 2 0 []), (15, .lst false 0 (nds false 0 pl)), (16, .int .i64 pl.length), (17, .int .i64 i)], [(1, ⟨false, false, 1, ints out, 0⟩), (2, ⟨true, false, 7, [d.v false 0], 0⟩)], 3⟩)) := by
  refine loop_ind (fun j => rs.length - j) _ (fun j => ⟨[(0, .lst false 0 (nds false 0 pl)), (4, .ref 1 0 out.length), (5, .int .i64 i), (6, .ptr 2 0 []), (15, .lst false 0 (nds false 0 pl)), (16, .int .i64 pl.length), (17, .int .i64 i), (34, .ref 3 0 rs.length), (35, .int .i64 rs.length), (36, .int .i64 j)], [(1, ⟨false, false, 1, ints out, 0⟩), (2, ⟨true, false, 7, [d.v false 0], 0⟩), (3, ⟨false, false, 1, ints rs, 0⟩)], 4⟩) _ ?_
  intro j hj ih s hs
  have hw2 : IntKind.i64.wrap ((i : Int) - 1) = i - 1 := wrap_id (by omega) (by omega)
  refine loop_s cd90 rfl rfl hs ?_
  refine wa_ (wc_region (w_ (b_ (h := wo_nil (e_ (h := aft_normal (wa_ (?_))))))))
  refine c_ (h1 := ?_) (h2 := ?_)
  rotate_right 1
  focus
   intro c1
   first
   | exact dn c1
   | (have d1 := c1; try simp at d1
      have : j = rs.length := (by omega); subst this
      refine wc_exit (?_)
      )
  rotate_right 1
  focus
   intro c1
   first
   | exact dn c1
   | (have d1 := c1; try simp at d1
      have hw := wrap_succ (i := j) (by omega); obtain ⟨x, _, e1, g1⟩ := ints_cut (l := rs) (i := j) (by omega); simp at g1
      refine wc_skip (?_)
      )
  all_goals first
  | refine aft_exit ?_
  | (refine aft_normal ?_
     refine wa_ (wc_block (wa_ (wc_region (w_ (x_ (h := w_ (l_ (h := w_ (a_ (h := wo_nil (e_ (h := aft_normal (wa_ (wc_region (w_ (m_ (h := ?_)))))))))))))))))
     refine w_ (m_ (h := w_ (b_ (h := w_ (ca (hc := e_in _ _ _) (h := w_ (u_ (h := w_ (m_ (h := ?_))))))))))
     refine gw_ (h1 := ?_) (h2 := ?_)
     rotate_right 1
     focus
      intro c2
      first
      | exact dn c2
      | (have d2 := c2; try simp at d2
         refine go_ (h := go_ (h := go_ (h := go_ (h := go_ (h := go_ (h := ?_))))))
         )
     rotate_right 1
     focus
      intro c2
      first
      | exact dn c2
      | (have d2 := c2; try simp at d2
         simp [inI, hw2] at d2; obtain ⟨h3, h4⟩ := d2; obtain ⟨e, g2, g3⟩ := nds_ix (t := false) (s := 0) (l := pl) h3 (by omega)
         refine g_ (h := w_ (m_ (h := g_ (h := w_ (m_ (h := g_ (h := w_ (x_ (h := g_ (h := w_ (f_ (h := g_ (h := w_ (l_ (h := g_ (h := w_ (bE (h := ?_))))))))))))))))))
         )
     all_goals
      refine w_ (pk (h := wo_nil (e_ (h := ?_))))
     all_goals first
     | (refine aft_normal ?_
        refine c_ (h1 := ?_) (h2 := ?_)
        rotate_right 1
        focus
         intro c3
         first
         | exact dn c3
         | (have d3 := c3; try simp at d3
            refine wc_skip (?_)
            )
        rotate_right 1
        focus
         intro c3
         first
         | exact dn c3
         | (have d3 := c3; try simp at d3
            refine wa_ (wc_region (w_ (aN (h := w_ (a_ (h := wo_nil (e_ (h := aft_normal (wc_ret (?_))))))))))
            )
        )
     all_goals first | refine blk_normal ?_ | refine blk_ret ?_
     all_goals first
     | refine aft_ret ?_
     | (refine aft_normal ?_
        refine wc_region (w_ (b_ (h := w_ (m_ (h := wo_nil (e_ (h := ?_)))))))
        )
     )
  all_goals first
  | (refine (ih (j + 1) (by omega) ?_ _ ?_).trans ?_; (focus (first | omega | (simp; done) | (simp; omega))); (focus (simp [normE, hw]; done)); (focus (rw [e1]; simp [okR] at *; grind)))
  | (apply end_leaf (ex := Ext.ret) 1 (some [0, 2, 3, 4, 6, 15, 16, 17]); (focus (simp [normE]; rfl)); (focus (rw [e1]; simp [okR] at *; grind)))
  | (apply end_leaf (ex := (Ext.exit 3)) 1 (some [0, 2, 3, 4, 6, 15, 16, 17]); (focus (simp [normE]; rfl)); (focus (simp)))
theorem fit_of {pl : List Nd} {d : Nd} {i : Nat} (hi : i < 2000000) (h : (readsN d).all (okR pl i) = true) : fitN d i := by
  have hw2 : IntKind.i64.wrap ((i : Int) - 1) = i - 1 := wrap_id (by omega) (by omega)
  have key : ∀ k ∈ readsN d, 0 ≤ k ∧ k < i := by
    intro k hk
    have := List.all_eq_true.mp h k hk
    simp [okR, inI, hw2] at this
    omega
  unfold readsN at key
  constructor
  · intro h1
    rw [if_neg h1] at key
    split at key <;> exact key _ (by simp)
  · intro h1
    rw [if_neg (by omega), if_pos h1] at key
    exact key _ (by simp)
theorem plain_len (d : Nd) : (plainN d).cells.length ≤ d.cells.length := by
  simp only [plainN]
  split <;> simp
def stepC (pl : List Nd) (d : Nd) (out : List Int) : Int :=
  if inI d.op 1 12 = false then 5 else if d ≠ plainN d then 1 else if (readsN d).all (okR pl out.length) = false then 3 else faultN d out
def lookR (pl : List Nd) : List Nd → List Int → List Int × Int
  | [], out => (out, 0)
  | d :: r, out => if stepC pl d out = 0 then lookR pl r (out ++ [widthN d out]) else (out, stepC pl d out)
def lookE (q : List Int × Int) : Ext × St :=
  if q.2 = 0 then (.exit 0, ⟨[(4, .ref 1 0 q.1.length)], [(1, ⟨false, false, 1, ints q.1, 0⟩)], 2⟩) else (.ret, ⟨[(2, .lst true 1 []), (3, .int .i64 q.2), (4, .ref 1 0 q.1.length)], [(1, ⟨false, false, 1, ints q.1, 0⟩)], 2⟩)
theorem look_stop {pl r : List Nd} {d : Nd} {out : List Int} {i : Nat} {c : Int} (e : pl.drop i = d :: r) (h : stepC pl d out = c) (hc : c ≠ 0) : lookE (lookR pl (pl.drop i) out) = (.ret, ⟨[(2, .lst true 1 []), (3, .int .i64 c), (4, .ref 1 0 out.length)], [(1, ⟨false, false, 1, ints out, 0⟩)], 2⟩) := by
  subst h
  rw [e, lookR, if_neg hc, lookE, if_neg hc]
theorem look_go {pl r : List Nd} {d : Nd} {out : List Int} {i : Nat} (e : pl.drop i = d :: r) (h : stepC pl d out = 0) : lookR pl (pl.drop i) out = lookR pl r (out ++ [widthN d out]) := by
  rw [e, lookR, if_pos h]
theorem l_look (pl : List Nd) (hp : pl.length < 2000000) (hk : okN pl) : ∀ out : List Int, out.length ≤ pl.length → ∀ s, normE 1 (some [0, 4, 15, 16, 17]) s = ⟨[(0, .lst false 0 (nds false 0 pl)), (4, .ref 1 0 out.length), (15, .lst false 0 (nds false 0 pl)), (16, .int .i64 pl.length), (17, .int .i64 out.length)], [(1, ⟨false, false, 1, ints out, 0⟩)], 2⟩ →
    oc.loop 90 5 s = some (lookE (lookR pl (pl.drop out.length) out)) := by
  refine loop_ind (fun out => pl.length - out.length) _ (fun out => ⟨[(0, .lst false 0 (nds false 0 pl)), (4, .ref 1 0 out.length), (15, .lst false 0 (nds false 0 pl)), (16, .int .i64 pl.length), (17, .int .i64 out.length)], [(1, ⟨false, false, 1, ints out, 0⟩)], 2⟩) _ ?_
  intro out hi ih s hs
  refine loop_s cd90 rfl rfl hs ?_
  refine wa_ (wc_region (w_ (b_ (h := wo_nil (e_ (h := aft_normal (wa_ (?_))))))))
  refine c_ (h1 := ?_) (h2 := ?_)
  rotate_right 1
  focus
   intro c1
   first
   | exact dn c1
   | (have d1 := c1; try simp at d1
      have hn : pl.length = out.length := (by omega)
      refine wc_exit (?_)
      )
  rotate_right 1
  focus
   intro c1
   first
   | exact dn c1
   | (have d1 := c1; try simp at d1
      have hw := wrap_succ (i := out.length) (by omega); obtain ⟨d, hx, e1, g1⟩ := nds_cut (t := false) (s := 0) (l := pl) (i := out.length) (by omega); simp at g1; have hd := hk d (List.mem_of_getElem? hx); by_cases h3 : d.op = 3
      all_goals
       refine wc_skip (?_)
      )
  all_goals first
  | refine aft_exit ?_
  | (refine aft_normal ?_
     refine wa_ (wc_block (wa_ (wc_region (w_ (m_ (h := w_ (x_ (h := w_ (l_ (h := w_ (al (h := w_ (a_ (h := w0 (s_ (h := wo_nil (e_ (h := aft_normal (?_)))))))))))))))))))
     refine wa_ (wc_block (wa_ (wc_region (w_ (f_ (h := w_ (l_ (h := w_ (ca (hc := e_in _ _ _) (h := w_ (u_ (h := w_ (a_ (h := wo_nil (e_ (h := aft_normal (?_)))))))))))))))))
     refine c_ (h1 := ?_) (h2 := ?_)
     rotate_right 1
     focus
      intro c2
      first
      | exact dn c2
      | (have d2 := c2; try simp at d2
         refine wa_ (wc_draw (y_ (l_ (h := ax_ (h := y_ (l_ (h := ax_ (h := ?_))))))))
         first | refine y_ (ca (hc := e_plain3 0 d h3) (h := ?_)) | refine y_ (ca (hc := e_plain 0 d h3) (h := ?_))
         refine ax_ (h := y_ (ca (hc := e_same 0 0 d (plainN d) (by omega) (by have := plain_len d; omega)) (h := ax_ (h := y_ (u_ (h := ax_ (h := y_ (a_ (h := ax_ (h := wo_nil (ed (h := aft_normal (?_)))))))))))))
         refine c_ (h1 := ?_) (h2 := ?_)
         rotate_right 1
         focus
          intro c3
          first
          | exact dn c3
          | (have d3 := c3; try simp at d3
             refine wc_skip (?_)
             )
         rotate_right 1
         focus
          intro c3
          first
          | exact dn c3
          | (have d3 := c3; try simp at d3
             refine wa_ (wc_region (w_ (aN (h := w_ (a_ (h := wo_nil (e_ (h := aft_normal (wc_ret (?_))))))))))
             )
         )
     rotate_right 1
     focus
      intro c2
      first
      | exact dn c2
      | (have d2 := c2; try simp at d2
         refine wa_ (wc_region (w_ (aN (h := w_ (a_ (h := wo_nil (e_ (h := aft_normal (wc_ret (?_))))))))))
         )
     all_goals first | refine blk_normal ?_ | refine blk_ret ?_
     all_goals first
     | refine aft_ret ?_
     | (refine aft_normal ?_
        refine wa_ (wa_ (wc_region (w_ (l_ (h := w_ (ca (hc := e_reads 0 d) (h := w_ (le (h := w_ (m_ (h := wo_nil (e_ (h := aft_normal (wc_block (?_)))))))))))))))
        refine wc_loopI (l_reads pl out (readsN d) d out.length (by omega) (by omega) (by unfold readsN; split; simp; split <;> simp) 0 (by omega) _ (by simp [normE])) ?_ ?_
        rotate_right 1
        focus
         intro c4
         first
         | exact dn c4
         | (have d4 := c4; try simp at d4
            have d4' : (readsN d).all (okR pl out.length) = false := (by simpa using c4)
            skip
            )
        rotate_right 1
        focus
         intro c4
         first
         | exact dn c4
         | (have d4 := c4; try simp at d4
            have d4' : (readsN d).all (okR pl out.length) = true := (by simpa using c4); have hf := fit_of (i := out.length) (by omega) (by simpa using c4)
            skip
            )
        all_goals first | refine blk_ret ?_ | refine blk_exit ?_
        all_goals first
        | refine aft_ret ?_
        | (refine aft_normal ?_
           refine wa_ (wa_ (wc_region (w_ (l_ (h := w_ (m_ (h := w_ (ca (hc := e_fault 0 0 d out (by omega) hf (by simp [inI] at d2; omega)) (h := w_ (a_ (h := wo_nil (e_ (h := aft_normal (wa_ (wc_region (w_ (m_ (h := ?_))))))))))))))))))
           refine w_ (bE (h := wo_nil (e_ (h := aft_normal (?_)))))
           refine c_ (h1 := ?_) (h2 := ?_)
           rotate_right 1
           focus
            intro c5
            first
            | exact dn c5
            | (have d5 := c5; try simp at d5
               refine wc_skip (?_)
               )
           rotate_right 1
           focus
            intro c5
            first
            | exact dn c5
            | (have d5 := c5; try simp at d5
               refine wa_ (wc_region (w_ (m_ (h := w_ (aN (h := w_ (a_ (h := wo_nil (e_ (h := aft_normal (wc_ret (?_))))))))))))
               )
           all_goals first
           | refine aft_ret ?_
           | (refine aft_normal ?_
              refine wc_region (w_ (m_ (h := w_ (l_ (h := w_ (m_ (h := w_ (ca (hc := e_width 0 0 d out (by omega) hf) (h := w_ (bs (h := w_ (ap (h := w_ (a_ (h := wo_nil (e_ (h := ?_)))))))))))))))))
              )
           )
        )
     all_goals first | refine blk_normal ?_ | refine blk_ret ?_
     all_goals first
     | refine aft_ret ?_
     | (refine aft_normal ?_
        refine wc_region (w_ (b_ (h := w_ (m_ (h := wo_nil (e_ (h := ?_)))))))
        )
     )
  all_goals first
  | (refine (ih (out ++ [widthN d out]) (by simp; omega) ?_ _ ?_).trans ?_; (focus (first | omega | (simp; done) | (simp; omega))); (focus (simp [normE, hw]; done)); (focus (rw [look_go e1 (by grind [stepC])]; simp)))
  | (apply end_leaf (ex := Ext.ret) 1 (some [2, 3, 4]); (focus (simp [normE]; rfl)); (focus (exact (look_stop e1 (c := 5) (by grind [stepC]) (by decide)).symm)))
  | (apply end_leaf (ex := Ext.ret) 1 (some [2, 3, 4]); (focus (simp [normE]; rfl)); (focus (exact (look_stop e1 (c := 1) (by grind [stepC]) (by decide)).symm)))
  | (apply end_leaf (ex := Ext.ret) 1 (some [2, 3, 4]); (focus (simp [normE]; rfl)); (focus (exact (look_stop e1 (c := 3) (by grind [stepC]) (by decide)).symm)))
  | (apply end_leaf (ex := Ext.ret) 1 (some [2, 3, 4]); (focus (simp [normE]; rfl)); (focus (exact (look_stop e1 (c := faultN d out) (by grind [stepC]) (by omega)).symm)))
  | (apply end_leaf (ex := (Ext.exit 0)) 1 (some [2, 3, 4]); (focus (simp [normE]; rfl)); (focus (rw [List.drop_eq_nil_of_le (by omega)]; simp [lookR, lookE])))
def lookN (pl : List Nd) : List Int × Int :=
  if inI pl.length 1 8 = false then ([], 2) else if (lookR pl pl []).2 = 0 then lookR pl pl [] else ([], (lookR pl pl []).2)
theorem e_looked (pl : List Nd) (hp : pl.length < 2000000) (hk : okN pl) : oc.call 90 [.lst false 0 (nds false 0 pl)] = some (.tup [.lst true 1 (ints (lookN pl).1), .int .i64 (lookN pl).2], []) := by
  refine fun_s rfl cd90 rfl rfl rfl (by simp; rfl) (by simp; rfl) ?_
  refine wa_ (wc_region (w_ (aN (h := w_ (a_ (h := wo_nil (e_ (h := aft_normal (wa_ (wa_ (wc_region (w_ (m_ (h := w_ (ca (hc := e_sizeN _ _ (by simp; omega)) (h := w_ (ca (hc := e_in _ _ _) (h := ?_))))))))))))))))))
  refine w_ (u_ (h := wo_nil (e_ (h := aft_normal (?_)))))
  refine c_ (h1 := ?_) (h2 := ?_)
  rotate_right 1
  focus
   intro c1
   refine wc_skip (?_)
  rotate_right 1
  focus
   intro c1
   refine wa_ (wc_region (w_ (aN (h := w_ (a_ (h := wo_nil (e_ (h := aft_normal (wc_ret (?_))))))))))
  all_goals first
  | refine aft_ret ?_
  | (refine aft_normal ?_
     refine wa_ (wc_region (w_ (bs (h := w_ (a_ (h := wo_nil (e_ (h := aft_normal (wa_ (wa_ (wc_region (w_ (m_ (h := w_ (le (h := w_ (m_ (h := ?_))))))))))))))))))
     refine wo_nil (e_ (h := aft_normal (wc_block (?_))))
     refine wc_loopI ((l_look pl hp hk [] (by simp) _ (by simp [normE])).trans (by rw [lookE])) ?_ ?_
     rotate_right 1
     focus
      intro c2
      skip
     rotate_right 1
     focus
      intro c2
      skip
     all_goals first | refine blk_ret ?_ | refine blk_exit ?_
     all_goals first
     | refine aft_ret ?_
     | (refine aft_normal ?_
        refine wa_ (wc_region (w_ (m_ (h := w_ (a_ (h := w_ (a_ (h := wo_nil (e_ (h := aft_normal (wc_ret (?_))))))))))))
        )
     )
  all_goals (refine fin_ (hr := (res_tmp rfl (res_tmp rfl res_nil))) (h := ?_); (focus (simp_all [lookN])))
end Go.Proofs.Ytgkbmiaimjpbfaa.Ev
namespace Go.Proofs.Ytgkbmiaimjpbfaa.Ev
open Go
set_option maxRecDepth 100000
set_option linter.unusedSimpArgs false
set_option linter.unusedVariables false
set_option maxHeartbeats 2000000
def Good (pl : List Nd) (ws : List Int) : Prop := ∀ n : Nat, n < ws.length → ∃ d, pl[n]? = some d ∧ at0 ws n = widthN d (ws.take n) ∧ fitN d n ∧ d.cells.length < 2000000
theorem at0_take {ws : List Int} {n : Nat} {a : Int} (h : a.toNat < n) : at0 (ws.take n) a = at0 ws a := by
  simp only [at0, List.getD_eq_getElem?_getD, List.getElem?_take, if_pos h]
theorem e_l3Width (pl : List Nd) (ws : List Int) (hp : pl.length < 2000000) (G : Good pl ws) : ∀ n : Nat, n < ws.length → oc.call 162 [.lst false 0 (nds false 0 pl), .int .i64 n] = some (.int .i64 (at0 ws n), []) := by
  intro n
  induction n using Nat.strongRecOn with
  | ind n ih =>
    intro hn
    obtain ⟨d, hx, hv, ⟨h1, h2⟩, hd⟩ := G n hn
    have hrec : ∀ a : Int, 0 ≤ a → a < n → oc.call 162 [.lst false 0 (nds false 0 pl), .int .i64 a] = some (.int .i64 (at0 (ws.take n) a), []) := by
      intro a h3 h4
      have := ih a.toNat (by omega) (by omega)
      rw [at0_take (by omega)]
      rw [Int.toNat_of_nonneg h3] at this
      exact this
    have g1 : (nds false 0 pl)[(n : Int).toNat]? = some (d.v false 0) := nds_get (by simpa using hx)
    rw [hv]
    refine fun_s rfl cd162 rfl rfl rfl (by simp; rfl) (by simp; rfl) ?_
    refine wa_ (wc_region (w_ (a_ (h := wo_nil (e_ (h := aft_normal (wa_ (wc_region (w_ (m_ (h := w_ (m_ (h := w_ (x_ (h := w_ (l_ (h := w_ (al (h := ?_)))))))))))))))))))
    refine w0 (s_ (h := wo_nil (e_ (h := aft_normal (wa_ (wa_ (wc_region (w_ (f_ (h := w_ (l_ (h := wo_nil (e_ (h := aft_normal (wc_block (wa_ (?_)))))))))))))))))
    refine wc_region (w_ (bE (h := w_ (a_ (h := wo_nil (e_ (h := aft_normal (?_))))))))
    refine c_ (h1 := ?_) (h2 := ?_)
    rotate_right 1
    focus
     intro c1
     first
     | exact dn c1
     | (have d1 := c1; try simp at d1
        refine wa_ (wc_region (w_ (bE (h := w_ (a_ (h := wo_nil (e_ (h := aft_normal (?_)))))))))
        refine c_ (h1 := ?_) (h2 := ?_)
        rotate_right 1
        focus
         intro c2
         first
         | exact dn c2
         | (have d2 := c2; try simp at d2
            refine wa_ (wc_region (w_ (bE (h := w_ (a_ (h := wo_nil (e_ (h := aft_normal (?_)))))))))
            refine c_ (h1 := ?_) (h2 := ?_)
            rotate_right 1
            focus
             intro c3
             first
             | exact dn c3
             | (have d3 := c3; try simp at d3
                refine wa_ (wa_ (wc_region (w_ (bE (h := w_ (a_ (h := wo_nil (e_ (h := aft_normal (?_))))))))))
                refine c_ (h1 := ?_) (h2 := ?_)
                rotate_right 1
                focus
                 intro c4
                 first
                 | exact dn c4
                 | (have d4 := c4; try simp at d4
                    refine wa_ (wc_region (w_ (bE (h := w_ (a_ (h := wo_nil (e_ (h := aft_normal (?_)))))))))
                    refine c_ (h1 := ?_) (h2 := ?_)
                    rotate_right 1
                    focus
                     intro c5
                     first
                     | exact dn c5
                     | (have d5 := c5; try simp at d5
                        refine wa_ (wc_region (w_ (bE (h := w_ (a_ (h := wo_nil (e_ (h := aft_normal (?_)))))))))
                        refine c_ (h1 := ?_) (h2 := ?_)
                        rotate_right 1
                        focus
                         intro c6
                         first
                         | exact dn c6
                         | (have d6 := c6; try simp at d6
                            refine wc_region (w_ (bE (h := w_ (a_ (h := wo_nil (e_ (h := ?_)))))))
                            )
                        rotate_right 1
                        focus
                         intro c6
                         first
                         | exact dn c6
                         | (have d6 := c6; try simp at d6
                            refine wc_skip (?_)
                            )
                        )
                    rotate_right 1
                    focus
                     intro c5
                     first
                     | exact dn c5
                     | (have d5 := c5; try simp at d5
                        refine wc_skip (?_)
                        )
                    )
                rotate_right 1
                focus
                 intro c4
                 first
                 | exact dn c4
                 | (have d4 := c4; try simp at d4
                    refine wc_skip (?_)
                    )
                all_goals first
                | (refine aft_normal ?_
                   refine c_ (h1 := ?_) (h2 := ?_)
                   rotate_right 1
                   focus
                    intro c7
                    first
                    | exact dn c7
                    | (have d7 := c7; try simp at d7
                       obtain ⟨h3, h4⟩ := h1 (by omega)
                       refine wc_skip (?_)
                       )
                   rotate_right 1
                   focus
                    intro c7
                    first
                    | exact dn c7
                    | (have d7 := c7; try simp at d7
                       refine wa_ (wc_region (w_ (f_ (h := w_ (l_ (h := w_ (b_ (h := w_ (a_ (h := wo_nil (e_ (h := aft_normal (wc_ret (?_))))))))))))))
                       )
                   )
                )
            rotate_right 1
            focus
             intro c3
             first
             | exact dn c3
             | (have d3 := c3; try simp at d3
                obtain ⟨h3, h4⟩ := h1 (by omega); obtain ⟨h5, h6⟩ := h2 (by omega)
                refine wa_ (wc_draw (y_ (m_ (h := ax_ (h := y_ (f_ (h := ax_ (h := y_ (l_ (h := ax_ (h := y_ (ca (hc := hrec _ h3 h4) (h := ax_ (h := y_ (m_ (h := ax_ (h := y_ (f_ (h := ax_ (h := y_ (l_ (h := ax_ (h := y_ (ca (hc := hrec _ h5 h6) (h := ax_ (h := y_ (b_ (h := ax_ (h := y_ (f_ (h := ax_ (h := ?_))))))))))))))))))))))))))))))))
                refine y_ (l_ (h := ax_ (h := y_ (b_ (h := ax_ (h := y_ (a_ (h := ax_ (h := wo_nil (ed (h := aft_normal (wc_ret (?_)))))))))))))
                )
            )
        rotate_right 1
        focus
         intro c2
         first
         | exact dn c2
         | (have d2 := c2; try simp at d2
            refine wa_ (wc_region (w_ (f_ (h := w_ (l_ (h := w_ (le (h := w_ (a_ (h := wo_nil (e_ (h := aft_normal (wc_ret (?_))))))))))))))
            )
        )
    rotate_right 1
    focus
     intro c1
     first
     | exact dn c1
     | (have d1 := c1; try simp at d1
        refine wa_ (wc_region (w_ (f_ (h := w_ (l_ (h := w_ (a_ (h := wo_nil (e_ (h := aft_normal (wc_ret (?_))))))))))))
        )
    all_goals first | refine blk_normal ?_ | refine blk_ret ?_
    all_goals first
    | refine aft_ret ?_
    | (refine aft_normal ?_
       refine wa_ (wc_region (w_ (m_ (h := w_ (f_ (h := w_ (l_ (h := w_ (ca (hc := hrec _ h3 h4) (h := w_ (a_ (h := wo_nil (e_ (h := aft_normal (wc_ret (?_))))))))))))))))
       )
    all_goals (refine fin_ (hr := (res_tmp rfl res_nil)) (h := ?_); (focus (clear ih hrec hv G; simp [widthN]; grind [inI])))
theorem e_l3Named (d : Nd) (hd : d.cells.length < 2000000) (ho : 1 ≤ d.op ∧ d.op ≤ 12) : oc.call 160 [d.v false 0] = some (.bool (decide (d = plainN d)), []) := by
  refine fun_s rfl cd160 rfl rfl rfl (by simp; rfl) (by simp; rfl) ?_
  refine wa_ (wc_region (w_ (bx (h := w_ (a_ (h := wo_nil (e_ (h := aft_normal (wa_ (wa_ (wc_region (w_ (f_ (h := w_ (l_ (h := w_ (ca (hc := e_l3Reads _) (h := ?_))))))))))))))))))
  refine w_ (b_ (h := w_ (m_ (h := ?_))))
  refine gw_ (h1 := ?_) (h2 := ?_)
  rotate_right 1
  focus
   intro c1
   first
   | exact dn c1
   | (have d1 := c1; try simp at d1
      refine go_ (h := go_ (h := go_ (h := ?_)))
      )
  rotate_right 1
  focus
   intro c1
   first
   | exact dn c1
   | (have d1 := c1; try simp at d1
      refine g_ (h := w_ (f_ (h := g_ (h := w_ (l_ (h := g_ (h := w_ (bE (h := ?_)))))))))
      )
  all_goals
   refine w_ (pk (h := w_ (m_ (h := ?_))))
   refine gw_ (h1 := ?_) (h2 := ?_)
   rotate_right 1
   focus
    intro c2
    first
    | exact dn c2
    | (have d2 := c2; try simp at d2
       refine go_ (h := go_ (h := go_ (h := go_ (h := go_ (h := ?_)))))
       )
   rotate_right 1
   focus
    intro c2
    first
    | exact dn c2
    | (have d2 := c2; try simp at d2
       refine g_ (h := w_ (f_ (h := g_ (h := w_ (l_ (h := g_ (h := w_ (ca (hc := e_l3Reads _) (h := g_ (h := w_ (b_ (h := g_ (h := w_ (m_ (h := ?_)))))))))))))))
       )
   all_goals
    first
    | (skip
       refine goN (h := goN (h := goN (h := ?_)))
       )
    | (refine gw_ (h1 := ?_) (h2 := ?_)
       rotate_right 1
       focus
        intro c3
        first
        | exact dn c3
        | (have d3 := c3; try simp at d3
           refine go_ (h := go_ (h := go_ (h := ?_)))
           )
       rotate_right 1
       focus
        intro c3
        first
        | exact dn c3
        | (have d3 := c3; try simp at d3
           refine g_ (h := w_ (f_ (h := g_ (h := w_ (l_ (h := g_ (h := w_ (bE (h := ?_)))))))))
           )
       )
    all_goals
     first
     | (skip
        refine g_ (h := w_ (pk (h := ?_)))
        )
     | (skip
        refine go_ (h := ?_)
        )
     all_goals
      refine w_ (pk (h := wo_nil (e_ (h := ?_))))
  all_goals first
  | (refine aft_normal ?_
     refine c_ (h1 := ?_) (h2 := ?_)
     rotate_right 1
     focus
      intro c4
      first
      | exact dn c4
      | (have d4 := c4; try simp at d4
         refine wc_skip (?_)
         )
     rotate_right 1
     focus
      intro c4
      first
      | exact dn c4
      | (have d4 := c4; try simp at d4
         refine wa_ (wc_region (w_ (a_ (h := wo_nil (e_ (h := aft_normal (wc_ret (?_))))))))
         )
     )
  all_goals first
  | refine aft_ret ?_
  | (refine aft_normal ?_
     refine wa_ (wa_ (wc_region (w_ (f_ (h := w_ (l_ (h := w_ (bE (h := w_ (m_ (h := ?_)))))))))))
     refine gw_ (h1 := ?_) (h2 := ?_)
     rotate_right 1
     focus
      intro c5
      first
      | exact dn c5
      | (have d5 := c5; try simp at d5
         refine go_ (h := go_ (h := go_ (h := go_ (h := ?_))))
         )
     rotate_right 1
     focus
      intro c5
      first
      | exact dn c5
      | (have d5 := c5; try simp at d5
         refine g_ (h := w_ (f_ (h := g_ (h := w_ (l_ (h := g_ (h := w_ (bE (h := g_ (h := w_ (m_ (h := ?_))))))))))))
         )
     all_goals
      first
      | (skip
         refine goN (h := goN (h := goN (h := ?_)))
         )
      | (refine gw_ (h1 := ?_) (h2 := ?_)
         rotate_right 1
         focus
          intro c6
          first
          | exact dn c6
          | (have d6 := c6; try simp at d6
             refine go_ (h := go_ (h := go_ (h := ?_)))
             )
         rotate_right 1
         focus
          intro c6
          first
          | exact dn c6
          | (have d6 := c6; try simp at d6
             refine g_ (h := w_ (f_ (h := g_ (h := w_ (l_ (h := g_ (h := w_ (bE (h := ?_)))))))))
             )
         )
      all_goals
       first
       | (skip
          refine g_ (h := w_ (pk (h := ?_)))
          )
       | (skip
          refine go_ (h := ?_)
          )
       all_goals
        refine w_ (pk (h := w_ (m_ (h := ?_))))
        refine gw_ (h1 := ?_) (h2 := ?_)
        rotate_right 1
        focus
         intro c7
         first
         | exact dn c7
         | (have d7 := c7; try simp at d7
            refine go_ (h := go_ (h := go_ (h := go_ (h := ?_))))
            )
        rotate_right 1
        focus
         intro c7
         first
         | exact dn c7
         | (have d7 := c7; try simp at d7
            refine g_ (h := w_ (f_ (h := g_ (h := w_ (l_ (h := g_ (h := w_ (bE (h := g_ (h := w_ (m_ (h := ?_))))))))))))
            )
        all_goals
         first
         | (skip
            refine goN (h := goN (h := goN (h := goN (h := ?_))))
            )
         | (refine gw_ (h1 := ?_) (h2 := ?_)
            rotate_right 1
            focus
             intro c8
             first
             | exact dn c8
             | (have d8 := c8; try simp at d8
                refine go_ (h := go_ (h := go_ (h := go_ (h := ?_))))
                )
            rotate_right 1
            focus
             intro c8
             first
             | exact dn c8
             | (have d8 := c8; try simp at d8
                refine g_ (h := w_ (f_ (h := g_ (h := w_ (l_ (h := g_ (h := w_ (le (h := g_ (h := w_ (b_ (h := ?_))))))))))))
                )
            )
         all_goals
          first
          | (skip
             refine g_ (h := w_ (pk (h := ?_)))
             )
          | (skip
             refine go_ (h := ?_)
             )
          all_goals
           refine w_ (pk (h := wo_nil (e_ (h := ?_))))
     all_goals first
     | (refine aft_normal ?_
        refine c_ (h1 := ?_) (h2 := ?_)
        rotate_right 1
        focus
         intro c9
         first
         | exact dn c9
         | (have d9 := c9; try simp at d9
            refine wc_skip (?_)
            )
        rotate_right 1
        focus
         intro c9
         first
         | exact dn c9
         | (have d9 := c9; try simp at d9
            refine wa_ (wc_region (w_ (a_ (h := wo_nil (e_ (h := aft_normal (wc_ret (?_))))))))
            )
        )
     all_goals first
     | refine aft_ret ?_
     | (refine aft_normal ?_
        refine wa_ (wa_ (wc_region (w_ (f_ (h := w_ (l_ (h := wo_nil (e_ (h := aft_normal (wc_block (wa_ (wa_ (wc_region (w_ (bE (h := ?_))))))))))))))))
        refine w_ (a_ (h := wo_nil (e_ (h := aft_normal (?_)))))
        refine c_ (h1 := ?_) (h2 := ?_)
        rotate_right 1
        focus
         intro c10
         first
         | exact dn c10
         | (have d10 := c10; try simp at d10
            refine wa_ (wc_region (w_ (bE (h := w_ (a_ (h := wo_nil (e_ (h := aft_normal (?_)))))))))
            refine c_ (h1 := ?_) (h2 := ?_)
            rotate_right 1
            focus
             intro c11
             first
             | exact dn c11
             | (have d11 := c11; try simp at d11
                refine wa_ (wc_region (w_ (bE (h := w_ (a_ (h := wo_nil (e_ (h := aft_normal (?_)))))))))
                refine c_ (h1 := ?_) (h2 := ?_)
                rotate_right 1
                focus
                 intro c12
                 first
                 | exact dn c12
                 | (have d12 := c12; try simp at d12
                    refine wa_ (wc_region (w_ (bE (h := w_ (a_ (h := wo_nil (e_ (h := aft_normal (?_)))))))))
                    refine c_ (h1 := ?_) (h2 := ?_)
                    rotate_right 1
                    focus
                     intro c13
                     first
                     | exact dn c13
                     | (have d13 := c13; try simp at d13
                        refine wc_region (w_ (bE (h := w_ (a_ (h := wo_nil (e_ (h := ?_)))))))
                        )
                    rotate_right 1
                    focus
                     intro c13
                     first
                     | exact dn c13
                     | (have d13 := c13; try simp at d13
                        refine wc_skip (?_)
                        )
                    )
                rotate_right 1
                focus
                 intro c12
                 first
                 | exact dn c12
                 | (have d12 := c12; try simp at d12
                    refine wc_skip (?_)
                    )
                )
            rotate_right 1
            focus
             intro c11
             first
             | exact dn c11
             | (have d11 := c11; try simp at d11
                refine wc_skip (?_)
                )
            )
        rotate_right 1
        focus
         intro c10
         first
         | exact dn c10
         | (have d10 := c10; try simp at d10
            refine wc_skip (?_)
            )
        all_goals first
        | (refine aft_normal ?_
           refine c_ (h1 := ?_) (h2 := ?_)
           rotate_right 1
           focus
            intro c14
            first
            | exact dn c14
            | (have d14 := c14; try simp at d14
               refine wc_skip (?_)
               )
           rotate_right 1
           focus
            intro c14
            first
            | exact dn c14
            | (have d14 := c14; try simp at d14
               refine wa_ (wc_region (w_ (f_ (h := w_ (l_ (h := w_ (bE (h := w_ (a_ (h := wo_nil (e_ (h := aft_normal (wc_ret (?_))))))))))))))
               )
           )
        all_goals first | refine blk_normal ?_ | refine blk_ret ?_
        all_goals first
        | refine aft_ret ?_
        | (refine aft_normal ?_
           refine wa_ (wc_region (w_ (a_ (h := wo_nil (e_ (h := aft_normal (wc_ret (?_))))))))
           )
        )
     )
  all_goals (refine fin_ (hr := (res_tmp rfl res_nil)) (h := ?_); (focus (simp [Nd.eq_iff, plainN]; grind)))
theorem reads_len (d : Nd) : ((readsN d).length : Int) = if d.op = 1 then 0 else if d.op = 4 ∨ d.op = 6 then 2 else 1 := by
  unfold readsN
  split
  · simp
  · split <;> simp
theorem reads_at {d : Nd} {k : Nat} (h : k < (readsN d).length) : (readsN d).drop k = (if k = 1 then d.b else d.a) :: (readsN d).drop (k + 1) := by
  rw [List.drop_eq_getElem_cons h]
  congr 1
  unfold readsN at h ⊢
  split at h
  · simp at h
  · split at h
    · simp at h
      rcases k with _ | _ | k
      · simp [*]
      · simp [*]
      · omega
    · simp at h
      subst h
      simp [*]
theorem l_readsS (pl : List Nd) (d : Nd) (i : Nat) (hp : pl.length < 2000000) (hi : i ≤ pl.length) : ∀ k : Nat, k ≤ (readsN d).length → ∀ s, normE 2 (some [0, 1, 5, 6]) s = ⟨[(0, .lst false 0 (nds false 0 pl)), (1, .int .i64 i), (5, .ptr 2 0 []), (6, .int .i64 k)], [(2, ⟨true, false, 7, [d.v false 0], 0⟩)], 3⟩ →
    oc.loop 87 7 s = some (if ((readsN d).drop k).all (okR pl i) = true then (.exit 0, ⟨[(0, .lst false 0 (nds false 0 pl)), (5, .ptr 2 0 [])], [(2, ⟨true, false, 7, [d.v false 0], 0⟩)], 3⟩)
      else (.ret, ⟨[(0, .lst false 0 (nds false 0 pl)), (4, .int .i64 3), (5, .ptr 2 0 [])], [(2, ⟨true, false, 7, [d.v false 0], 0⟩)], 3⟩)) := by
  refine loop_ind (fun k => (readsN d).length - k) _ (fun k => ⟨[(0, .lst false 0 (nds false 0 pl)), (1, .int .i64 i), (5, .ptr 2 0 []), (6, .int .i64 k)], [(2, ⟨true, false, 7, [d.v false 0], 0⟩)], 3⟩) _ ?_
  intro k hk ih s hs
  have hw2 : IntKind.i64.wrap ((i : Int) - 1) = i - 1 := wrap_id (by omega) (by omega)
  have hlen := reads_len d
  have hle : (readsN d).length ≤ 2 := by unfold readsN; split; simp; split <;> simp
  have hw := wrap_succ (i := k) (by omega)
  refine loop_s cd87 rfl rfl hs ?_
  refine wa_ (wa_ (wc_region (w_ (m_ (h := w_ (f_ (h := w_ (l_ (h := w_ (ca (hc := e_l3Reads _) (h := w_ (b_ (h := wo_nil (e_ (h := aft_normal (?_))))))))))))))))
  refine c_ (h1 := ?_) (h2 := ?_)
  rotate_right 1
  focus
   intro c1
   first
   | exact dn c1
   | (have d1 := c1; try simp at d1
      rw [← hlen] at d1; have : k = (readsN d).length := (by omega)
      refine wc_exit (?_)
      )
  rotate_right 1
  focus
   intro c1
   first
   | exact dn c1
   | (have d1 := c1; try simp at d1
      rw [← hlen] at d1; have e1 := reads_at (d := d) (k := k) (by omega)
      refine wc_skip (?_)
      )
  all_goals first
  | refine aft_exit ?_
  | (refine aft_normal ?_
     refine wa_ (wc_block (wa_ (wc_region (w_ (f_ (h := w_ (l_ (h := w_ (a_ (h := wo_nil (e_ (h := aft_normal (wa_ (wa_ (wc_region (?_))))))))))))))))
     refine w_ (m_ (h := w_ (bE (h := wo_nil (e_ (h := aft_normal (?_)))))))
     refine c_ (h1 := ?_) (h2 := ?_)
     rotate_right 1
     focus
      intro c2
      first
      | exact dn c2
      | (have d2 := c2; try simp at d2
         refine wc_skip (?_)
         )
     rotate_right 1
     focus
      intro c2
      first
      | exact dn c2
      | (have d2 := c2; try simp at d2
         refine wc_region (w_ (f_ (h := w_ (l_ (h := w_ (a_ (h := wo_nil (e_ (h := ?_)))))))))
         )
     all_goals first
     | (refine aft_normal ?_
        refine wa_ (wc_region (w_ (m_ (h := w_ (m_ (h := w_ (b_ (h := w_ (ca (hc := e_l1In _ _ _) (h := w_ (u_ (h := w_ (m_ (h := ?_))))))))))))))
        refine gw_ (h1 := ?_) (h2 := ?_)
        rotate_right 1
        focus
         intro c3
         first
         | exact dn c3
         | (have d3 := c3; try simp at d3
            refine go_ (h := go_ (h := go_ (h := go_ (h := go_ (h := go_ (h := ?_))))))
            )
        rotate_right 1
        focus
         intro c3
         first
         | exact dn c3
         | (have d3 := c3; try simp at d3
            simp [inI, hw2] at d3; obtain ⟨h3, h4⟩ := d3; obtain ⟨e, g2, g3⟩ := nds_ix (t := false) (s := 0) (l := pl) h3 (by omega)
            refine g_ (h := w_ (m_ (h := g_ (h := w_ (m_ (h := g_ (h := w_ (x_ (h := g_ (h := w_ (f_ (h := g_ (h := w_ (l_ (h := g_ (h := w_ (bE (h := ?_))))))))))))))))))
            )
        all_goals
         refine w_ (pk (h := wo_nil (e_ (h := ?_))))
        all_goals first
        | (refine aft_normal ?_
           refine c_ (h1 := ?_) (h2 := ?_)
           rotate_right 1
           focus
            intro c4
            first
            | exact dn c4
            | (have d4 := c4; try simp at d4
               refine wc_skip (?_)
               )
           rotate_right 1
           focus
            intro c4
            first
            | exact dn c4
            | (have d4 := c4; try simp at d4
               refine wa_ (wc_region (w_ (a_ (h := wo_nil (e_ (h := aft_normal (wc_ret (?_))))))))
               )
           )
        )
     all_goals first | refine blk_normal ?_ | refine blk_ret ?_
     all_goals first
     | refine aft_ret ?_
     | (refine aft_normal ?_
        refine wc_region (w_ (m_ (h := w_ (b_ (h := w_ (a_ (h := wo_nil (e_ (h := ?_)))))))))
        )
     )
  all_goals first
  | (refine (ih (k + 1) (by omega) ?_ _ ?_).trans ?_; (focus (first | omega | (simp; done) | (simp; omega))); (focus (simp [normE, hw]; done)); (focus (rw [e1]; simp [okR] at *; grind)))
  | (apply end_leaf (ex := Ext.ret) 2 (some [0, 4, 5]); (focus (simp [normE]; rfl)); (focus (rw [e1]; simp [okR] at *; grind)))
  | (apply end_leaf (ex := (Ext.exit 0)) 2 (some [0, 4, 5]); (focus (simp [normE]; rfl)); (focus (rw [List.drop_eq_nil_of_le (by omega)]; simp)))
theorem l_cellsS (d : Nd) (v : Int) (hd : d.cells.length < 2000000) : ∀ i : Nat, i ≤ d.cells.length → ∀ s, normE 2 (some [5, 8, 9]) s = ⟨[(5, .ptr 2 0 []), (8, .int .i64 v), (9, .int .i64 i)], [(2, ⟨true, false, 7, [d.v false 0], 0⟩)], 3⟩ →
    oc.loop 87 27 s = some (if ((d.cells.drop i).all fun c => inI c 0 (IntKind.i64.wrap (v - 1))) = true then (.exit 3, ⟨[], [], 2⟩) else (.ret, ⟨[(4, .int .i64 3)], [], 2⟩)) := by
  refine loop_ind (fun i => d.cells.length - i) _ (fun i => ⟨[(5, .ptr 2 0 []), (8, .int .i64 v), (9, .int .i64 i)], [(2, ⟨true, false, 7, [d.v false 0], 0⟩)], 3⟩) _ ?_
  intro i hi ih s hs
  refine loop_s cd87 rfl rfl hs ?_
  refine wa_ (wa_ (wc_region (w_ (m_ (h := w_ (f_ (h := w_ (l_ (h := w_ (le (h := w_ (b_ (h := wo_nil (e_ (h := aft_normal (?_))))))))))))))))
  refine c_ (h1 := ?_) (h2 := ?_)
  rotate_right 1
  focus
   intro c1
   simp at c1; have : i = d.cells.length := (by omega); subst this
   refine wc_exit (?_)
  rotate_right 1
  focus
   intro c1
   simp at c1; have hw := wrap_succ (i := i) (by omega); obtain ⟨x, _, d1, g1⟩ := ints_cut c1
   refine wc_skip (?_)
  all_goals first
  | refine aft_exit ?_
  | (refine aft_normal ?_
     refine wa_ (wc_block (wa_ (wc_region (w_ (f_ (h := w_ (l_ (h := w_ (m_ (h := w_ (x_ (h := w_ (l_ (h := w_ (m_ (h := w_ (b_ (h := w_ (ca (hc := e_l1In _ _ _) (h := ?_))))))))))))))))))))
     refine w_ (u_ (h := wo_nil (e_ (h := aft_normal (?_)))))
     refine c_ (h1 := ?_) (h2 := ?_)
     rotate_right 1
     focus
      intro c2
      refine wc_skip (?_)
     rotate_right 1
     focus
      intro c2
      refine wa_ (wc_region (w_ (a_ (h := wo_nil (e_ (h := aft_normal (wc_ret (?_))))))))
     all_goals first | refine blk_normal ?_ | refine blk_ret ?_
     all_goals first
     | refine aft_ret ?_
     | (refine aft_normal ?_
        refine wc_region (w_ (m_ (h := w_ (b_ (h := w_ (a_ (h := wo_nil (e_ (h := ?_)))))))))
        )
     )
  all_goals first
  | (refine (ih (i + 1) (by omega) ?_ _ ?_).trans ?_; (focus (first | omega | (simp; done) | (simp; omega))); (focus (simp [normE, hw]; done)); (focus (rw [d1]; simp at c2 ⊢; grind)))
  | (apply end_leaf (ex := Ext.ret) 2 (some [4]); (focus (simp [normE]; rfl)); (focus (rw [d1]; simp at c2 ⊢; grind)))
  | (apply end_leaf (ex := (Ext.exit 3)) 2 (some [4]); (focus (simp [normE]; rfl)); (focus (simp)))
theorem e_l3WidthI (pl : List Nd) (ws : List Int) (hp : pl.length < 2000000) (G : Good pl ws) (a : Int) (h0 : 0 ≤ a) (h1 : a < ws.length) : oc.call 162 [.lst false 0 (nds false 0 pl), .int .i64 a] = some (.int .i64 (at0 ws a), []) := by
  have := e_l3Width pl ws hp G a.toNat (by omega)
  rwa [Int.toNat_of_nonneg h0] at this
def Hid (p : Prop) : Prop := p
theorem e_l3Node (pl : List Nd) (ws : List Int) (d : Nd) (hp : pl.length < 2000000) (hk : okN pl) (G : Good pl ws) (hx : pl[ws.length]? = some d) : oc.call 87 [.lst false 0 (nds false 0 pl), .int .i64 ws.length] = some (.int .i64 (stepC pl d ws), []) := by
  have hd := hk d (List.mem_of_getElem? hx)
  have hlt : ws.length < pl.length := (List.getElem?_eq_some_iff.mp hx).1
  have g1 : (nds false 0 pl)[(ws.length : Int).toNat]? = some (d.v false 0) := nds_get (by simpa using hx)
  refine fun_s rfl cd87 rfl rfl rfl (by simp; rfl) (by simp; rfl) ?_
  refine wa_ (wc_region (w_ (a_ (h := wo_nil (e_ (h := aft_normal (wa_ (wc_region (w_ (m_ (h := w_ (m_ (h := w_ (x_ (h := w_ (l_ (h := w_ (al (h := ?_)))))))))))))))))))
  refine w0 (s_ (h := wo_nil (e_ (h := aft_normal (wa_ (wa_ (wc_region (w_ (f_ (h := w_ (l_ (h := w_ (ca (hc := e_l1In _ _ _) (h := w_ (u_ (h := wo_nil (e_ (h := aft_normal (?_)))))))))))))))))))
  refine c_ (h1 := ?_) (h2 := ?_)
  rotate_right 1
  focus
   intro c1
   first
   | exact dn c1
   | (have d1 := c1; try simp at d1
      refine wc_skip (?_)
      )
  rotate_right 1
  focus
   intro c1
   first
   | exact dn c1
   | (have d1 := c1; try simp at d1
      refine wa_ (wc_region (w_ (a_ (h := wo_nil (e_ (h := aft_normal (wc_ret (?_))))))))
      )
  all_goals first
  | refine aft_ret ?_
  | (refine aft_normal ?_
     refine wa_ (wa_ (wc_region (w_ (l_ (h := w_ (ca (hc := e_l3Named d hd (by simp [inI] at d1; omega)) (h := w_ (u_ (h := wo_nil (e_ (h := aft_normal (?_))))))))))))
     refine c_ (h1 := ?_) (h2 := ?_)
     rotate_right 1
     focus
      intro c2
      first
      | exact dn c2
      | (have d2 := c2; try simp at d2
         have hpl : Hid (d = plainN d) := d2; clear d2 c2
         refine wc_skip (?_)
         )
     rotate_right 1
     focus
      intro c2
      first
      | exact dn c2
      | (have d2 := c2; try simp at d2
         refine wa_ (wc_region (w_ (a_ (h := wo_nil (e_ (h := aft_normal (wc_ret (?_))))))))
         )
     all_goals first
     | refine aft_ret ?_
     | (refine aft_normal ?_
        refine wa_ (wa_ (wc_region (w_ (a_ (h := wo_nil (e_ (h := aft_normal (wc_block (?_)))))))))
        refine wc_loopI (l_readsS pl d ws.length (by omega) (by omega) 0 (by omega) _ (by simp [normE])) ?_ ?_
        rotate_right 1
        focus
         intro c3
         first
         | exact dn c3
         | (have d3 := c3; try simp at d3
            have d3' : (readsN d).all (okR pl ws.length) = false := (by simpa using c3)
            skip
            )
        rotate_right 1
        focus
         intro c3
         first
         | exact dn c3
         | (have d3 := c3; try simp at d3
            have d3' : (readsN d).all (okR pl ws.length) = true := (by simpa using c3); obtain ⟨k1, k2⟩ := fit_of (i := ws.length) (by omega) (by simpa using c3)
            skip
            )
        all_goals first | refine blk_ret ?_ | refine blk_exit ?_
        all_goals first
        | refine aft_ret ?_
        | (refine aft_normal ?_
           refine wa_ (wa_ (wc_region (w_ (f_ (h := w_ (l_ (h := w_ (bE (h := wo_nil (e_ (h := aft_normal (?_))))))))))))
           refine c_ (h1 := ?_) (h2 := ?_)
           rotate_right 1
           focus
            intro c4
            first
            | exact dn c4
            | (have d4 := c4; try simp at d4
               obtain ⟨h3, h4⟩ := k1 (by omega)
               refine wc_skip (?_)
               )
           rotate_right 1
           focus
            intro c4
            first
            | exact dn c4
            | (have d4 := c4; try simp at d4
               refine wa_ (wa_ (wc_region (w_ (f_ (h := w_ (l_ (h := w_ (ca (hc := e_l1In _ _ _) (h := w_ (u_ (h := wo_nil (e_ (h := aft_normal (?_))))))))))))))
               refine c_ (h1 := ?_) (h2 := ?_)
               rotate_right 1
               focus
                intro c5
                first
                | exact dn c5
                | (have d5 := c5; try simp at d5
                   refine wc_skip (?_)
                   )
               rotate_right 1
               focus
                intro c5
                first
                | exact dn c5
                | (have d5 := c5; try simp at d5
                   refine wa_ (wc_region (w_ (a_ (h := wo_nil (e_ (h := aft_normal (wc_ret (?_))))))))
                   )
               all_goals first
               | refine aft_ret ?_
               | (refine aft_normal ?_
                  refine wa_ (wc_region (w_ (a_ (h := wo_nil (e_ (h := aft_normal (wc_ret (?_))))))))
                  )
               )
           all_goals first
           | refine aft_ret ?_
           | (refine aft_normal ?_
              refine wa_ (wc_region (w_ (m_ (h := w_ (f_ (h := w_ (l_ (h := w_ (ca (hc := e_l3WidthI pl ws hp G _ h3 h4) (h := w_ (a_ (h := wo_nil (e_ (h := aft_normal (wa_ (wa_ (wc_region (?_))))))))))))))))))
              refine w_ (f_ (h := w_ (l_ (h := wo_nil (e_ (h := aft_normal (wc_block (wa_ (wc_region (w_ (bE (h := w_ (a_ (h := wo_nil (e_ (h := aft_normal (?_)))))))))))))))))
              refine c_ (h1 := ?_) (h2 := ?_)
              rotate_right 1
              focus
               intro c6
               first
               | exact dn c6
               | (have d6 := c6; try simp at d6
                  refine wa_ (wc_region (w_ (bE (h := w_ (a_ (h := wo_nil (e_ (h := aft_normal (?_)))))))))
                  refine c_ (h1 := ?_) (h2 := ?_)
                  rotate_right 1
                  focus
                   intro c7
                   first
                   | exact dn c7
                   | (have d7 := c7; try simp at d7
                      refine wa_ (wc_region (w_ (bE (h := w_ (a_ (h := wo_nil (e_ (h := aft_normal (?_)))))))))
                      refine c_ (h1 := ?_) (h2 := ?_)
                      rotate_right 1
                      focus
                       intro c8
                       first
                       | exact dn c8
                       | (have d8 := c8; try simp at d8
                          refine wa_ (wc_region (w_ (bE (h := w_ (a_ (h := wo_nil (e_ (h := aft_normal (?_)))))))))
                          refine c_ (h1 := ?_) (h2 := ?_)
                          rotate_right 1
                          focus
                           intro c9
                           first
                           | exact dn c9
                           | (have d9 := c9; try simp at d9
                              refine wa_ (wc_region (w_ (bE (h := w_ (a_ (h := wo_nil (e_ (h := aft_normal (?_)))))))))
                              refine c_ (h1 := ?_) (h2 := ?_)
                              rotate_right 1
                              focus
                               intro c10
                               first
                               | exact dn c10
                               | (have d10 := c10; try simp at d10
                                  refine wa_ (wa_ (wc_region (w_ (bE (h := w_ (a_ (h := wo_nil (e_ (h := aft_normal (?_))))))))))
                                  refine c_ (h1 := ?_) (h2 := ?_)
                                  rotate_right 1
                                  focus
                                   intro c11
                                   first
                                   | exact dn c11
                                   | (have d11 := c11; try simp at d11
                                      refine wa_ (wc_region (w_ (bE (h := w_ (a_ (h := wo_nil (e_ (h := aft_normal (?_)))))))))
                                      refine c_ (h1 := ?_) (h2 := ?_)
                                      rotate_right 1
                                      focus
                                       intro c12
                                       first
                                       | exact dn c12
                                       | (have d12 := c12; try simp at d12
                                          refine wc_region (w_ (bE (h := w_ (a_ (h := wo_nil (e_ (h := ?_)))))))
                                          )
                                      rotate_right 1
                                      focus
                                       intro c12
                                       first
                                       | exact dn c12
                                       | (have d12 := c12; try simp at d12
                                          refine wc_skip (?_)
                                          )
                                      )
                                  rotate_right 1
                                  focus
                                   intro c11
                                   first
                                   | exact dn c11
                                   | (have d11 := c11; try simp at d11
                                      refine wc_skip (?_)
                                      )
                                  all_goals first
                                  | (refine aft_normal ?_
                                     refine c_ (h1 := ?_) (h2 := ?_)
                                     rotate_right 1
                                     focus
                                      intro c13
                                      first
                                      | exact dn c13
                                      | (have d13 := c13; try simp at d13
                                         refine wc_skip (?_)
                                         )
                                     rotate_right 1
                                     focus
                                      intro c13
                                      first
                                      | exact dn c13
                                      | (have d13 := c13; try simp at d13
                                         refine wa_ (wc_region (w_ (f_ (h := w_ (l_ (h := w_ (m_ (h := w_ (b_ (h := w_ (ca (hc := e_l1In _ _ _) (h := w_ (u_ (h := wo_nil (e_ (h := aft_normal (?_)))))))))))))))))
                                         refine c_ (h1 := ?_) (h2 := ?_)
                                         rotate_right 1
                                         focus
                                          intro c14
                                          first
                                          | exact dn c14
                                          | (have d14 := c14; try simp at d14
                                             refine wc_skip (?_)
                                             )
                                         rotate_right 1
                                         focus
                                          intro c14
                                          first
                                          | exact dn c14
                                          | (have d14 := c14; try simp at d14
                                             refine wa_ (wc_region (w_ (a_ (h := wo_nil (e_ (h := aft_normal (wc_ret (?_))))))))
                                             )
                                         )
                                     )
                                  )
                              rotate_right 1
                              focus
                               intro c10
                               first
                               | exact dn c10
                               | (have d10 := c10; try simp at d10
                                  refine wa_ (wc_draw (y_ (f_ (h := ax_ (h := y_ (l_ (h := ax_ (h := y_ (m_ (h := ax_ (h := y_ (ca (hc := e_l1Min _ _) (h := ax_ (h := y_ (ca (hc := e_l1In _ _ _) (h := ax_ (h := y_ (u_ (h := ax_ (h := wo_nil (ed (h := aft_normal (?_)))))))))))))))))))))))
                                  refine c_ (h1 := ?_) (h2 := ?_)
                                  rotate_right 1
                                  focus
                                   intro c15
                                   first
                                   | exact dn c15
                                   | (have d15 := c15; try simp at d15
                                      refine wc_skip (?_)
                                      )
                                  rotate_right 1
                                  focus
                                   intro c15
                                   first
                                   | exact dn c15
                                   | (have d15 := c15; try simp at d15
                                      refine wa_ (wc_region (w_ (a_ (h := wo_nil (e_ (h := aft_normal (wc_ret (?_))))))))
                                      )
                                  )
                              )
                          rotate_right 1
                          focus
                           intro c9
                           first
                           | exact dn c9
                           | (have d9 := c9; try simp at d9
                              obtain ⟨h5, h6⟩ := k2 (by omega)
                              refine wa_ (wc_region (w_ (m_ (h := w_ (f_ (h := w_ (l_ (h := w_ (ca (hc := e_l3WidthI pl ws hp G _ h5 h6) (h := w_ (a_ (h := wo_nil (e_ (h := aft_normal (wa_ (wa_ (wc_draw (?_))))))))))))))))))
                              refine y_ (f_ (h := ax_ (h := y_ (l_ (h := ax_ (h := y_ (m_ (h := ax_ (h := y_ (m_ (h := ax_ (h := y_ (ca (hc := e_l1Min _ _) (h := ax_ (h := y_ (ca (hc := e_l1In _ _ _) (h := ax_ (h := y_ (u_ (h := ax_ (h := wo_nil (ed (h := aft_normal (?_))))))))))))))))))))))))
                              refine c_ (h1 := ?_) (h2 := ?_)
                              rotate_right 1
                              focus
                               intro c16
                               first
                               | exact dn c16
                               | (have d16 := c16; try simp at d16
                                  refine wc_skip (?_)
                                  )
                              rotate_right 1
                              focus
                               intro c16
                               first
                               | exact dn c16
                               | (have d16 := c16; try simp at d16
                                  refine wa_ (wc_region (w_ (a_ (h := wo_nil (e_ (h := aft_normal (wc_ret (?_))))))))
                                  )
                              all_goals first
                              | refine aft_ret ?_
                              | (refine aft_normal ?_
                                 refine wa_ (wc_region (w_ (m_ (h := w_ (m_ (h := w_ (b_ (h := w_ (f_ (h := w_ (l_ (h := w_ (b_ (h := w_ (b_ (h := wo_nil (e_ (h := aft_normal (?_)))))))))))))))))))
                                 refine c_ (h1 := ?_) (h2 := ?_)
                                 rotate_right 1
                                 focus
                                  intro c17
                                  first
                                  | exact dn c17
                                  | (have d17 := c17; try simp at d17
                                     refine wc_skip (?_)
                                     )
                                 rotate_right 1
                                 focus
                                  intro c17
                                  first
                                  | exact dn c17
                                  | (have d17 := c17; try simp at d17
                                     refine wa_ (wc_region (w_ (a_ (h := wo_nil (e_ (h := aft_normal (wc_ret (?_))))))))
                                     )
                                 )
                              )
                          )
                      rotate_right 1
                      focus
                       intro c8
                       first
                       | exact dn c8
                       | (have d8 := c8; try simp at d8
                          obtain ⟨h5, h6⟩ := k2 (by omega)
                          refine wa_ (wc_region (w_ (m_ (h := w_ (m_ (h := w_ (f_ (h := w_ (l_ (h := w_ (ca (hc := e_l3WidthI pl ws hp G _ h5 h6) (h := w_ (bE (h := wo_nil (e_ (h := aft_normal (?_)))))))))))))))))
                          refine c_ (h1 := ?_) (h2 := ?_)
                          rotate_right 1
                          focus
                           intro c18
                           first
                           | exact dn c18
                           | (have d18 := c18; try simp at d18
                              refine wc_skip (?_)
                              )
                          rotate_right 1
                          focus
                           intro c18
                           first
                           | exact dn c18
                           | (have d18 := c18; try simp at d18
                              refine wa_ (wc_region (w_ (a_ (h := wo_nil (e_ (h := aft_normal (wc_ret (?_))))))))
                              )
                          )
                      )
                  rotate_right 1
                  focus
                   intro c7
                   first
                   | exact dn c7
                   | (have d7 := c7; try simp at d7
                      refine wa_ (wa_ (wc_region (w_ (f_ (h := w_ (l_ (h := w_ (le (h := w_ (b_ (h := w_ (m_ (h := ?_)))))))))))))
                      refine gw_ (h1 := ?_) (h2 := ?_)
                      rotate_right 1
                      focus
                       intro c19
                       first
                       | exact dn c19
                       | (have d19 := c19; try simp at d19
                          refine go_ (h := go_ (h := go_ (h := go_ (h := ?_))))
                          )
                      rotate_right 1
                      focus
                       intro c19
                       first
                       | exact dn c19
                       | (have d19 := c19; try simp at d19
                          refine g_ (h := w_ (f_ (h := g_ (h := w_ (l_ (h := g_ (h := w_ (le (h := g_ (h := w_ (b_ (h := ?_))))))))))))
                          )
                      all_goals
                       refine w_ (pk (h := wo_nil (e_ (h := ?_))))
                      all_goals first
                      | (refine aft_normal ?_
                         refine c_ (h1 := ?_) (h2 := ?_)
                         rotate_right 1
                         focus
                          intro c20
                          first
                          | exact dn c20
                          | (have d20 := c20; try simp at d20
                             refine wc_skip (?_)
                             )
                         rotate_right 1
                         focus
                          intro c20
                          first
                          | exact dn c20
                          | (have d20 := c20; try simp at d20
                             refine wa_ (wc_region (w_ (a_ (h := wo_nil (e_ (h := aft_normal (wc_ret (?_))))))))
                             )
                         )
                      all_goals first
                      | refine aft_ret ?_
                      | (refine aft_normal ?_
                         refine wa_ (wc_region (w_ (a_ (h := wo_nil (e_ (h := aft_normal (wc_block (?_))))))))
                         refine wc_loopI (l_cellsS d (at0 ws d.a) hd 0 (by omega) _ (by simp [normE])) ?_ ?_
                         rotate_right 1
                         focus
                          intro c21
                          first
                          | exact dn c21
                          | (have d21 := c21; try simp at d21
                             skip
                             )
                         rotate_right 1
                         focus
                          intro c21
                          first
                          | exact dn c21
                          | (have d21 := c21; try simp at d21
                             skip
                             )
                         all_goals first | refine blk_ret ?_ | refine blk_exit ?_
                         )
                      )
                  )
              rotate_right 1
              focus
               intro c6
               first
               | exact dn c6
               | (have d6 := c6; try simp at d6
                  refine wa_ (wc_region (w_ (f_ (h := w_ (l_ (h := w_ (m_ (h := w_ (b_ (h := w_ (ca (hc := e_l1In _ _ _) (h := w_ (u_ (h := w_ (m_ (h := ?_))))))))))))))))
                  refine gw_ (h1 := ?_) (h2 := ?_)
                  rotate_right 1
                  focus
                   intro c22
                   first
                   | exact dn c22
                   | (have d22 := c22; try simp at d22
                      refine go_ (h := go_ (h := go_ (h := go_ (h := ?_))))
                      )
                  rotate_right 1
                  focus
                   intro c22
                   first
                   | exact dn c22
                   | (have d22 := c22; try simp at d22
                      refine g_ (h := w_ (f_ (h := g_ (h := w_ (l_ (h := g_ (h := w_ (ca (hc := e_l1In _ _ _) (h := g_ (h := w_ (u_ (h := ?_))))))))))))
                      )
                  all_goals
                   refine w_ (pk (h := w_ (m_ (h := ?_))))
                   refine gw_ (h1 := ?_) (h2 := ?_)
                   rotate_right 1
                   focus
                    intro c23
                    first
                    | exact dn c23
                    | (have d23 := c23; try simp at d23
                       refine go_ (h := go_ (h := go_ (h := go_ (h := ?_))))
                       )
                   rotate_right 1
                   focus
                    intro c23
                    first
                    | exact dn c23
                    | (have d23 := c23; try simp at d23
                       refine g_ (h := w_ (f_ (h := g_ (h := w_ (l_ (h := g_ (h := w_ (ca (hc := e_l1In _ _ _) (h := g_ (h := w_ (u_ (h := ?_))))))))))))
                       )
                   all_goals
                    refine w_ (pk (h := wo_nil (e_ (h := ?_))))
                  all_goals first
                  | (refine aft_normal ?_
                     refine c_ (h1 := ?_) (h2 := ?_)
                     rotate_right 1
                     focus
                      intro c24
                      first
                      | exact dn c24
                      | (have d24 := c24; try simp at d24
                         refine wc_skip (?_)
                         )
                     rotate_right 1
                     focus
                      intro c24
                      first
                      | exact dn c24
                      | (have d24 := c24; try simp at d24
                         refine wa_ (wc_region (w_ (a_ (h := wo_nil (e_ (h := aft_normal (wc_ret (?_))))))))
                         )
                     )
                  )
              all_goals first | refine blk_normal ?_ | refine blk_ret ?_
              all_goals first
              | refine aft_ret ?_
              | (refine aft_normal ?_
                 refine wa_ (wc_region (w_ (a_ (h := wo_nil (e_ (h := aft_normal (wc_ret (?_))))))))
                 )
              )
           )
        )
     )
  all_goals (refine fin_ (hr := (res_tmp rfl res_nil)) (h := ?_); (focus (clear hk G; simp only [Hid] at *; simp [stepC, faultN, widthN]; grind [inI])))
end Go.Proofs.Ytgkbmiaimjpbfaa.Ev
namespace Go.Proofs.Ytgkbmiaimjpbfaa.Ev
open Go
set_option maxRecDepth 100000
set_option linter.unusedSimpArgs false
set_option linter.unusedVariables false
set_option maxHeartbeats 2000000
theorem good_nil (pl : List Nd) : Good pl [] := fun n h => by simp at h
theorem step_ok {pl : List Nd} {d : Nd} {out : List Int} (hl : out.length < 2000000) (h : stepC pl d out = 0) : fitN d out.length := by
  unfold stepC at h
  split at h
  · cases h
  · split at h
    · cases h
    · split at h
      · cases h
      · rename_i h1 h2 h3
        exact fit_of hl (by simpa using h3)
theorem good_snoc {pl : List Nd} {d : Nd} {ws : List Int} (hk : okN pl) (hl : ws.length < 2000000) (G : Good pl ws) (hx : pl[ws.length]? = some d) (h : stepC pl d ws = 0) : Good pl (ws ++ [widthN d ws]) := by
  intro n hn
  by_cases hlt : n < ws.length
  · obtain ⟨e, h1, h2, h3⟩ := G n hlt
    refine ⟨e, h1, ?_, h3⟩
    rw [List.take_append_of_le_length (by omega), ← h2]
    simp only [at0, List.getD_eq_getElem?_getD]
    rw [List.getElem?_append_left (by omega)]
  · have : n = ws.length := by simp at hn; omega
    subst this
    refine ⟨d, hx, ?_, step_ok hl h, hk d (List.mem_of_getElem? hx)⟩
    rw [List.take_left]
    simp [at0, List.getD_eq_getElem?_getD]
theorem l_planS (pl : List Nd) (hp : pl.length < 2000000) (hk : okN pl) : ∀ ws : List Int, (Good pl ws ∧ ws.length ≤ pl.length) → ∀ s, normE 1 (some [0, 3]) s = ⟨[(0, .lst false 0 (nds false 0 pl)), (3, .int .i64 ws.length)], [], 1⟩ →
    oc.loop 23 4 s = some (if (lookR pl (pl.drop ws.length) ws).2 = 0 then (.exit 0, ⟨[], [], 1⟩) else (.ret, ⟨[(2, .int .i64 (lookR pl (pl.drop ws.length) ws).2)], [], 1⟩)) := by
  refine loop_ind (σ := List Int) (fun ws => pl.length - ws.length) _ (fun ws => ⟨[(0, .lst false 0 (nds false 0 pl)), (3, .int .i64 ws.length)], [], 1⟩) _ ?_
  rintro ws ⟨G, hi⟩ ih s hs
  refine loop_s cd23 rfl rfl hs ?_
  refine wa_ (wa_ (wc_region (w_ (m_ (h := w_ (m_ (h := w_ (le (h := w_ (b_ (h := wo_nil (e_ (h := aft_normal (?_))))))))))))))
  refine c_ (h1 := ?_) (h2 := ?_)
  rotate_right 1
  focus
   intro c1
   first
   | exact dn c1
   | (have d1 := c1; try simp at d1
      refine wc_exit (?_)
      )
  rotate_right 1
  focus
   intro c1
   first
   | exact dn c1
   | (have d1 := c1; try simp at d1
      have hw := wrap_succ (i := ws.length) (by omega); obtain ⟨d, hx, e1, g1⟩ := nds_cut (t := false) (s := 0) (l := pl) (i := ws.length) (by omega)
      refine wc_skip (?_)
      )
  all_goals first
  | refine aft_exit ?_
  | (refine aft_normal ?_
     refine wa_ (wc_block (wa_ (wc_region (w_ (m_ (h := w_ (m_ (h := w_ (ca (hc := e_l3Node pl ws d hp hk G hx) (h := w_ (a_ (h := wo_nil (e_ (h := aft_normal (wa_ (wc_region (?_)))))))))))))))))
     refine w_ (m_ (h := w_ (bE (h := wo_nil (e_ (h := aft_normal (?_)))))))
     refine c_ (h1 := ?_) (h2 := ?_)
     rotate_right 1
     focus
      intro c2
      first
      | exact dn c2
      | (have d2 := c2; try simp at d2
         refine wc_skip (?_)
         )
     rotate_right 1
     focus
      intro c2
      first
      | exact dn c2
      | (have d2 := c2; try simp at d2
         refine wa_ (wc_region (w_ (m_ (h := w_ (a_ (h := wo_nil (e_ (h := aft_normal (wc_ret (?_))))))))))
         )
     all_goals first | refine blk_normal ?_ | refine blk_ret ?_
     all_goals first
     | refine aft_ret ?_
     | (refine aft_normal ?_
        refine wc_region (w_ (m_ (h := w_ (b_ (h := w_ (a_ (h := wo_nil (e_ (h := ?_)))))))))
        )
     )
  all_goals first
  | (refine (ih (ws ++ [widthN d ws]) (⟨good_snoc hk (by omega) G hx d2, by simp; omega⟩) ?_ _ ?_).trans ?_; (focus (first | omega | (simp; done) | (simp; omega))); (focus (simp [normE, hw]; done)); (focus (rw [look_go e1 d2]; simp)))
  | (apply end_leaf (ex := Ext.ret) 1 (some [2]); (focus (simp [normE]; rfl)); (focus (rw [e1, lookR, if_neg d2]; simp [d2])))
  | (apply end_leaf (ex := (Ext.exit 0)) 1 (some [2]); (focus (simp [normE]; rfl)); (focus (rw [List.drop_eq_nil_of_le (by omega)]; simp [lookR])))
theorem e_planS (pl : List Nd) (hp : pl.length < 2000000) (hk : okN pl) : oc.call 23 [.lst false 0 (nds false 0 pl)] = some (.int .i64 (lookN pl).2, []) := by
  refine fun_s rfl cd23 rfl rfl rfl (by simp; rfl) (by simp; rfl) ?_
  refine wa_ (wc_region (w_ (a_ (h := wo_nil (e_ (h := aft_normal (wa_ (wa_ (wc_region (w_ (m_ (h := w_ (le (h := w_ (b_ (h := w_ (m_ (h := ?_))))))))))))))))))
  refine gw_ (h1 := ?_) (h2 := ?_)
  rotate_right 1
  focus
   intro c1
   first
   | exact dn c1
   | (have d1 := c1; try simp at d1
      refine go_ (h := go_ (h := go_ (h := ?_)))
      )
  rotate_right 1
  focus
   intro c1
   first
   | exact dn c1
   | (have d1 := c1; try simp at d1
      refine g_ (h := w_ (m_ (h := g_ (h := w_ (le (h := g_ (h := w_ (b_ (h := ?_)))))))))
      )
  all_goals
   refine w_ (pk (h := wo_nil (e_ (h := ?_))))
  all_goals first
  | (refine aft_normal ?_
     refine c_ (h1 := ?_) (h2 := ?_)
     rotate_right 1
     focus
      intro c2
      first
      | exact dn c2
      | (have d2 := c2; try simp at d2
         refine wc_skip (?_)
         )
     rotate_right 1
     focus
      intro c2
      first
      | exact dn c2
      | (have d2 := c2; try simp at d2
         refine wa_ (wc_region (w_ (a_ (h := wo_nil (e_ (h := aft_normal (wc_ret (?_))))))))
         )
     )
  all_goals first
  | refine aft_ret ?_
  | (refine aft_normal ?_
     refine wa_ (wa_ (wc_region (w_ (a_ (h := wo_nil (e_ (h := aft_normal (wc_block (?_)))))))))
     refine wc_loopI (l_planS pl hp hk [] ⟨good_nil pl, by simp⟩ _ (by simp [normE])) ?_ ?_
     rotate_right 1
     focus
      intro c3
      first
      | exact dn c3
      | (have d3 := c3; try simp at d3
         skip
         )
     rotate_right 1
     focus
      intro c3
      first
      | exact dn c3
      | (have d3 := c3; try simp at d3
         skip
         )
     all_goals first | refine blk_ret ?_ | refine blk_exit ?_
     all_goals first
     | refine aft_ret ?_
     | (refine aft_normal ?_
        refine wa_ (wc_region (w_ (a_ (h := wo_nil (e_ (h := aft_normal (wc_ret (?_))))))))
        )
     )
  all_goals (refine fin_ (hr := (res_tmp rfl res_nil)) (h := ?_); (focus (clear hk; first | (simp_all [lookN, inI]; done) | (simp_all [lookN, inI] <;> grind))))
end Go.Proofs.Ytgkbmiaimjpbfaa.Ev
namespace Go.Proofs.Ytgkbmiaimjpbfaa.Ev
open Go
set_option maxRecDepth 100000
set_option linter.unusedSimpArgs false
set_option linter.unusedVariables false
set_option maxHeartbeats 2000000
end Go.Proofs.Ytgkbmiaimjpbfaa.Ev
namespace Go.Proofs.Ytgkbmiaimjpbfaa.Ev
open Go
set_option maxRecDepth 100000
set_option linter.unusedSimpArgs false
set_option linter.unusedVariables false
set_option maxHeartbeats 2000000
end Go.Proofs.Ytgkbmiaimjpbfaa.Ev
namespace Go.Proofs.Ytgkbmiaimjpbfaa.Ev
open Go
set_option maxRecDepth 100000
set_option linter.unusedSimpArgs false
set_option linter.unusedVariables false
set_option maxHeartbeats 2000000
end Go.Proofs.Ytgkbmiaimjpbfaa.Ev
namespace Go.Proofs.Ytgkbmiaimjpbfaa.Ev
open Go
set_option maxRecDepth 100000
set_option linter.unusedSimpArgs false
set_option linter.unusedVariables false
set_option maxHeartbeats 2000000
end Go.Proofs.Ytgkbmiaimjpbfaa.Ev
namespace Go.Proofs.Ytgkbmiaimjpbfaa.Ev
open Go
set_option maxRecDepth 100000
set_option linter.unusedSimpArgs false
set_option linter.unusedVariables false
set_option maxHeartbeats 2000000
def Wf (pl : List Nd) : Prop := ∀ (n : Nat) d, pl[n]? = some d → fitN d n
theorem lookR_wf {pl : List Nd} (hp : pl.length < 2000000) : ∀ (r : List Nd) (ws : List Int), r = pl.drop ws.length → (lookR pl r ws).2 = 0 → ∀ (n : Nat) d, ws.length ≤ n → pl[n]? = some d → fitN d n
  | [], ws, e, _, n, d, hn, hd => by
    have : pl.length ≤ ws.length := by
      have := congrArg List.length e; simp at this; omega
    have := (List.getElem?_eq_some_iff.mp hd).1
    omega
  | x :: r, ws, e, h, n, d, hn, hd => by
    unfold lookR at h
    have hx : pl[ws.length]? = some x := by
      have := congrArg (fun l => l[0]?) e
      simpa using this.symm
    have hr : r = pl.drop (ws.length + 1) := by
      have := congrArg List.tail e
      simpa [List.tail_drop] using this
    split at h
    · rename_i hs
      by_cases hc : n = ws.length
      · subst hc
        rw [hx] at hd
        cases hd
        exact step_ok (by have := (List.getElem?_eq_some_iff.mp hx).1; omega) hs
      · exact lookR_wf hp r (ws ++ [widthN x ws]) (by simpa using hr) h n d (by simp; omega) hd
    · exact absurd h ‹_›
theorem look_wf {pl : List Nd} (h : (lookN pl).2 = 0) : Wf pl := by
  unfold lookN at h
  split at h
  · cases h
  · rename_i hl
    simp [inI] at hl
    split at h
    · exact fun n d hd => lookR_wf (by omega) pl [] rfl h n d (by simp) hd
    · exact absurd h ‹_›
end Go.Proofs.Ytgkbmiaimjpbfaa.Ev
namespace Go.Proofs.Ytgkbmiaimjpbfaa.Ev
open Go
set_option maxRecDepth 100000
set_option linter.unusedSimpArgs false
set_option linter.unusedVariables false
set_option maxHeartbeats 2000000
end Go.Proofs.Ytgkbmiaimjpbfaa.Ev
namespace Go.Proofs.Ytgkbmiaimjpbfaa.Ev
open Go
set_option maxRecDepth 100000
set_option linter.unusedSimpArgs false
set_option linter.unusedVariables false
set_option maxHeartbeats 2000000
def cmpI (a b : Int) : Int := if a < b then -1 else if b < a then 1 else 0
theorem e_nan (a : Int) : oc.call 244 [.int .i64 a] = some (.bool false, []) := by
  refine fun_s rfl cd244 rfl rfl rfl (by simp; rfl) (by simp; rfl) ?_
  refine wa_ (wc_region (w_ (a_ (h := wo_nil (e_ (h := aft_normal (wa_ (wc_region (w_ (m_ (h := w_ (m_ (h := w_ (bE (h := w_ (a_ (h := wo_nil (e_ (h := ?_)))))))))))))))))))
  refine aft_normal (wc_ret (?_))
  all_goals (refine fin_ (hr := (res_tmp rfl res_nil)) (h := ?_); (focus (first | (simp_all; done) | (simp_all <;> omega) | (simp_all <;> split <;> simp_all <;> omega))))
theorem e_cmp (a b : Int) : oc.call 219 [.int .i64 a, .int .i64 b] = some (.int .i64 (cmpI a b), []) := by
  refine fun_s rfl cd219 rfl rfl rfl (by simp; rfl) (by simp; rfl) ?_
  refine wa_ (wc_region (w_ (a_ (h := wo_nil (e_ (h := aft_normal (wa_ (wc_region (w_ (m_ (h := w_ (ca (hc := e_nan _) (h := w_ (a_ (h := wo_nil (e_ (h := aft_normal (?_))))))))))))))))))
  refine wa_ (wc_region (w_ (m_ (h := w_ (ca (hc := e_nan _) (h := w_ (a_ (h := wo_nil (e_ (h := aft_normal (wa_ (wa_ (wc_region (w_ (m_ (h := wo_nil (e_ (h := ?_))))))))))))))))))
  refine aft_normal (?_)
  refine c_ (h1 := ?_) (h2 := ?_)
  rotate_right 1
  focus
   intro c1
   first
   | exact dn c1
   | (have d1 := c1; try simp at d1
      refine wc_skip (?_)
      )
  rotate_right 1
  focus
   intro c1
   first
   | exact dn c1
   | (have d1 := c1; try simp at d1
      refine wa_ (wa_ (wc_region (w_ (m_ (h := wo_nil (e_ (h := aft_normal (?_))))))))
      refine c_ (h1 := ?_) (h2 := ?_)
      rotate_right 1
      focus
       intro c2
       first
       | exact dn c2
       | (have d2 := c2; try simp at d2
          refine wc_skip (?_)
          )
      rotate_right 1
      focus
       intro c2
       first
       | exact dn c2
       | (have d2 := c2; try simp at d2
          refine wa_ (wc_region (w_ (a_ (h := wo_nil (e_ (h := aft_normal (wc_ret (?_))))))))
          )
      all_goals first
      | refine aft_ret ?_
      | (refine aft_normal ?_
         refine wa_ (wc_region (w_ (a_ (h := wo_nil (e_ (h := aft_normal (wc_ret (?_))))))))
         )
      )
  all_goals first
  | refine aft_ret ?_
  | (refine aft_normal ?_
     refine wa_ (wa_ (wc_region (w_ (m_ (h := wo_nil (e_ (h := aft_normal (?_))))))))
     refine c_ (h1 := ?_) (h2 := ?_)
     rotate_right 1
     focus
      intro c3
      first
      | exact dn c3
      | (have d3 := c3; try simp at d3
         refine wc_skip (?_)
         )
     rotate_right 1
     focus
      intro c3
      first
      | exact dn c3
      | (have d3 := c3; try simp at d3
         refine wa_ (wc_region (w_ (a_ (h := wo_nil (e_ (h := aft_normal (wc_ret (?_))))))))
         )
     all_goals first
     | refine aft_ret ?_
     | (refine aft_normal ?_
        refine wa_ (wa_ (wc_region (w_ (m_ (h := w_ (m_ (h := w_ (b_ (h := wo_nil (e_ (h := aft_normal (?_))))))))))))
        refine c_ (h1 := ?_) (h2 := ?_)
        rotate_right 1
        focus
         intro c4
         first
         | exact dn c4
         | (have d4 := c4; try simp at d4
            refine wc_skip (?_)
            )
        rotate_right 1
        focus
         intro c4
         first
         | exact dn c4
         | (have d4 := c4; try simp at d4
            refine wa_ (wc_region (w_ (a_ (h := wo_nil (e_ (h := aft_normal (wc_ret (?_))))))))
            )
        all_goals first
        | refine aft_ret ?_
        | (refine aft_normal ?_
           refine wa_ (wa_ (wc_region (w_ (m_ (h := w_ (m_ (h := w_ (b_ (h := wo_nil (e_ (h := aft_normal (?_))))))))))))
           refine c_ (h1 := ?_) (h2 := ?_)
           rotate_right 1
           focus
            intro c5
            first
            | exact dn c5
            | (have d5 := c5; try simp at d5
               refine wc_skip (?_)
               )
           rotate_right 1
           focus
            intro c5
            first
            | exact dn c5
            | (have d5 := c5; try simp at d5
               refine wa_ (wc_region (w_ (a_ (h := wo_nil (e_ (h := aft_normal (wc_ret (?_))))))))
               )
           all_goals first
           | refine aft_ret ?_
           | (refine aft_normal ?_
              refine wa_ (wc_region (w_ (a_ (h := wo_nil (e_ (h := aft_normal (wc_ret (?_))))))))
              )
           )
        )
     )
  all_goals (refine fin_ (hr := (res_tmp rfl res_nil)) (h := ?_); (focus (simp [cmpI]; grind)))
end Go.Proofs.Ytgkbmiaimjpbfaa.Ev
namespace Go.Proofs.Ytgkbmiaimjpbfaa.Ev
open Go
set_option maxRecDepth 100000
set_option linter.unusedSimpArgs false
set_option linter.unusedVariables false
set_option maxHeartbeats 2000000
end Go.Proofs.Ytgkbmiaimjpbfaa.Ev
namespace Go.Proofs.Ytgkbmiaimjpbfaa.Ev
open Go
set_option maxRecDepth 100000
set_option linter.unusedSimpArgs false
set_option linter.unusedVariables false
set_option maxHeartbeats 2000000
def rowF (r : List Int) : Int := if 4 < r.length then 2 else if r.all (fun c => inI c (-1000000000) 1000000000) = true then 0 else 3
theorem l_rowI (r : List Int) (hr : r.length ≤ 4) : ∀ i : Nat, (i ≤ r.length) → ∀ s, normE 1 (some [8, 9, 10]) s = ⟨[(8, .lst false 0 (ints r)), (9, .int .i64 r.length), (10, .int .i64 i)], [], 1⟩ →
    oc.loop 99 4 s = some (if (r.drop i).all (fun c => inI c (-1000000000) 1000000000) = true then (.exit 0, ⟨[], [], 1⟩) else (.ret, ⟨[(2, .int .i64 3)], [], 1⟩)) := by
  refine loop_ind (σ := Nat) (fun i => r.length - i) _ (fun i => ⟨[(8, .lst false 0 (ints r)), (9, .int .i64 r.length), (10, .int .i64 i)], [], 1⟩) _ ?_
  intro i hi ih s hs
  refine loop_s cd99 rfl rfl hs ?_
  refine wa_ (wc_region (w_ (b_ (h := wo_nil (e_ (h := aft_normal (wa_ (?_))))))))
  refine c_ (h1 := ?_) (h2 := ?_)
  rotate_right 1
  focus
   intro c1
   first
   | exact dn c1
   | (have d1 := c1; try simp at d1
      refine wc_exit (?_)
      )
  rotate_right 1
  focus
   intro c1
   first
   | exact dn c1
   | (have d1 := c1; try simp at d1
      have hw := wrap_succ (i := i) (by omega); obtain ⟨x, hx, e1, g1⟩ := ints_cut (l := r) (i := i) (by omega)
      refine wc_skip (?_)
      )
  all_goals first
  | refine aft_exit ?_
  | (refine aft_normal ?_
     refine wa_ (wc_block (wa_ (wc_region (w_ (x_ (h := w_ (l_ (h := w_ (a_ (h := wo_nil (e_ (h := aft_normal (wa_ (wc_region (w_ (m_ (h := ?_)))))))))))))))))
     refine w_ (ca (hc := e_in _ _ _) (h := w_ (u_ (h := wo_nil (e_ (h := aft_normal (?_)))))))
     refine c_ (h1 := ?_) (h2 := ?_)
     rotate_right 1
     focus
      intro c2
      first
      | exact dn c2
      | (have d2 := c2; try simp at d2
         refine wc_skip (?_)
         )
     rotate_right 1
     focus
      intro c2
      first
      | exact dn c2
      | (have d2 := c2; try simp at d2
         refine wa_ (wc_region (w_ (a_ (h := wo_nil (e_ (h := aft_normal (wc_ret (?_))))))))
         )
     all_goals first | refine blk_normal ?_ | refine blk_ret ?_
     all_goals first
     | refine aft_ret ?_
     | (refine aft_normal ?_
        refine wc_region (w_ (b_ (h := w_ (m_ (h := wo_nil (e_ (h := ?_)))))))
        )
     )
  all_goals first
  | (refine (ih (i + 1) (by omega) ?_ _ ?_).trans ?_; (focus (first | omega | (simp; done) | (simp; omega))); (focus (simp [normE, hw]; done)); (focus (rw [e1]; simp [d2])))
  | (apply end_leaf (ex := Ext.ret) 1 (some [2]); (focus (simp [normE]; rfl)); (focus (rw [e1]; simp [d2])))
  | (apply end_leaf (ex := (Ext.exit 0)) 1 (some [2]); (focus (simp [normE]; rfl)); (focus (rw [List.drop_eq_nil_of_le (by omega)]; simp)))
theorem e_rowI (r : List Int) (h : r.length < 2000000) : oc.call 99 [.lst false 0 (ints r)] = some (.int .i64 (rowF r), []) := by
  refine fun_s rfl cd99 rfl rfl rfl (by simp; rfl) (by simp; rfl) ?_
  refine wa_ (wc_region (w_ (a_ (h := wo_nil (e_ (h := aft_normal (wa_ (wa_ (wc_region (w_ (m_ (h := w_ (le (h := w_ (b_ (h := wo_nil (e_ (h := ?_))))))))))))))))))
  refine aft_normal (?_)
  refine c_ (h1 := ?_) (h2 := ?_)
  rotate_right 1
  focus
   intro c1
   first
   | exact dn c1
   | (have d1 := c1; try simp at d1
      refine wc_skip (?_)
      )
  rotate_right 1
  focus
   intro c1
   first
   | exact dn c1
   | (have d1 := c1; try simp at d1
      refine wa_ (wc_region (w_ (a_ (h := wo_nil (e_ (h := aft_normal (wc_ret (?_))))))))
      )
  all_goals first
  | refine aft_ret ?_
  | (refine aft_normal ?_
     refine wa_ (wa_ (wc_region (w_ (m_ (h := w_ (le (h := w_ (m_ (h := wo_nil (e_ (h := aft_normal (wc_block (?_)))))))))))))
     refine wc_loopI (l_rowI r (by omega) 0 (by omega) _ (by simp [normE])) ?_ ?_
     rotate_right 1
     focus
      intro c2
      first
      | exact dn c2
      | (have d2 := c2; try simp at d2
         skip
         )
     rotate_right 1
     focus
      intro c2
      first
      | exact dn c2
      | (have d2 := c2; try simp at d2
         skip
         )
     all_goals first | refine blk_ret ?_ | refine blk_exit ?_
     all_goals first
     | refine aft_ret ?_
     | (refine aft_normal ?_
        refine wa_ (wc_region (w_ (a_ (h := wo_nil (e_ (h := aft_normal (wc_ret (?_))))))))
        )
     )
  all_goals (refine fin_ (hr := (res_tmp rfl res_nil)) (h := ?_); (focus (simp [rowF]; grind)))
theorem l_rowS (r : List Int) (hr : r.length ≤ 4) : ∀ i : Nat, (i ≤ r.length) → ∀ s, normE 1 (some [0, 3]) s = ⟨[(0, .lst false 0 (ints r)), (3, .int .i64 i)], [], 1⟩ →
    oc.loop 145 4 s = some (if (r.drop i).all (fun c => inI c (-1000000000) 1000000000) = true then (.exit 0, ⟨[], [], 1⟩) else (.ret, ⟨[(2, .int .i64 3)], [], 1⟩)) := by
  refine loop_ind (σ := Nat) (fun i => r.length - i) _ (fun i => ⟨[(0, .lst false 0 (ints r)), (3, .int .i64 i)], [], 1⟩) _ ?_
  intro i hi ih s hs
  refine loop_s cd145 rfl rfl hs ?_
  refine wa_ (wa_ (wc_region (w_ (m_ (h := w_ (m_ (h := w_ (le (h := w_ (b_ (h := wo_nil (e_ (h := aft_normal (?_))))))))))))))
  refine c_ (h1 := ?_) (h2 := ?_)
  rotate_right 1
  focus
   intro c1
   first
   | exact dn c1
   | (have d1 := c1; try simp at d1
      refine wc_exit (?_)
      )
  rotate_right 1
  focus
   intro c1
   first
   | exact dn c1
   | (have d1 := c1; try simp at d1
      have hw := wrap_succ (i := i) (by omega); obtain ⟨x, hx, e1, g1⟩ := ints_cut (l := r) (i := i) (by omega)
      refine wc_skip (?_)
      )
  all_goals first
  | refine aft_exit ?_
  | (refine aft_normal ?_
     refine wa_ (wc_block (wa_ (wc_region (w_ (m_ (h := w_ (m_ (h := w_ (x_ (h := w_ (l_ (h := w_ (ca (hc := e_l1In _ _ _) (h := w_ (u_ (h := wo_nil (e_ (h := aft_normal (?_)))))))))))))))))))
     refine c_ (h1 := ?_) (h2 := ?_)
     rotate_right 1
     focus
      intro c2
      first
      | exact dn c2
      | (have d2 := c2; try simp at d2
         refine wc_skip (?_)
         )
     rotate_right 1
     focus
      intro c2
      first
      | exact dn c2
      | (have d2 := c2; try simp at d2
         refine wa_ (wc_region (w_ (a_ (h := wo_nil (e_ (h := aft_normal (wc_ret (?_))))))))
         )
     all_goals first | refine blk_normal ?_ | refine blk_ret ?_
     all_goals first
     | refine aft_ret ?_
     | (refine aft_normal ?_
        refine wc_region (w_ (m_ (h := w_ (b_ (h := w_ (a_ (h := wo_nil (e_ (h := ?_)))))))))
        )
     )
  all_goals first
  | (refine (ih (i + 1) (by omega) ?_ _ ?_).trans ?_; (focus (first | omega | (simp; done) | (simp; omega))); (focus (simp [normE, hw]; done)); (focus (rw [e1]; simp [d2])))
  | (apply end_leaf (ex := Ext.ret) 1 (some [2]); (focus (simp [normE]; rfl)); (focus (rw [e1]; simp [d2])))
  | (apply end_leaf (ex := (Ext.exit 0)) 1 (some [2]); (focus (simp [normE]; rfl)); (focus (rw [List.drop_eq_nil_of_le (by omega)]; simp)))
theorem e_rowS (r : List Int) (h : r.length < 2000000) : oc.call 145 [.lst false 0 (ints r)] = some (.int .i64 (rowF r), []) := by
  refine fun_s rfl cd145 rfl rfl rfl (by simp; rfl) (by simp; rfl) ?_
  refine wa_ (wc_region (w_ (a_ (h := wo_nil (e_ (h := aft_normal (wa_ (wa_ (wc_region (w_ (m_ (h := w_ (le (h := w_ (b_ (h := wo_nil (e_ (h := ?_))))))))))))))))))
  refine aft_normal (?_)
  refine c_ (h1 := ?_) (h2 := ?_)
  rotate_right 1
  focus
   intro c1
   first
   | exact dn c1
   | (have d1 := c1; try simp at d1
      refine wc_skip (?_)
      )
  rotate_right 1
  focus
   intro c1
   first
   | exact dn c1
   | (have d1 := c1; try simp at d1
      refine wa_ (wc_region (w_ (a_ (h := wo_nil (e_ (h := aft_normal (wc_ret (?_))))))))
      )
  all_goals first
  | refine aft_ret ?_
  | (refine aft_normal ?_
     refine wa_ (wa_ (wc_region (w_ (a_ (h := wo_nil (e_ (h := aft_normal (wc_block (?_)))))))))
     refine wc_loopI (l_rowS r (by omega) 0 (by omega) _ (by simp [normE])) ?_ ?_
     rotate_right 1
     focus
      intro c2
      first
      | exact dn c2
      | (have d2 := c2; try simp at d2
         skip
         )
     rotate_right 1
     focus
      intro c2
      first
      | exact dn c2
      | (have d2 := c2; try simp at d2
         skip
         )
     all_goals first | refine blk_ret ?_ | refine blk_exit ?_
     all_goals first
     | refine aft_ret ?_
     | (refine aft_normal ?_
        refine wa_ (wc_region (w_ (a_ (h := wo_nil (e_ (h := aft_normal (wc_ret (?_))))))))
        )
     )
  all_goals (refine fin_ (hr := (res_tmp rfl res_nil)) (h := ?_); (focus (simp [rowF]; grind)))
def hashC (h c : Int) : Int := (IntKind.i64.wrap (IntKind.i64.wrap (h * 131) + (IntKind.i64.wrap (c.tmod 1000003 + 1000003)).tmod 1000003)).tmod 1000003
def hashN (r : List Int) : Int := r.foldl hashC 17
theorem l_hashI (r : List Int) (hr : r.length < 2000000) : ∀ x : Nat × Int, (x.1 ≤ r.length) → ∀ s, normE 1 (some [3, 6, 7, 8]) s = ⟨[(3, .int .i64 x.2), (6, .lst false 0 (ints r)), (7, .int .i64 r.length), (8, .int .i64 x.1)], [], 1⟩ →
    oc.loop 156 3 s = some (.exit 0, ⟨[(3, .int .i64 ((r.drop x.1).foldl hashC x.2))], [], 1⟩) := by
  refine loop_ind (σ := Nat × Int) (fun x => r.length - x.1) _ (fun x => ⟨[(3, .int .i64 x.2), (6, .lst false 0 (ints r)), (7, .int .i64 r.length), (8, .int .i64 x.1)], [], 1⟩) _ ?_
  rintro ⟨i, h⟩ hi ih s hs
  simp only at hi
  refine loop_s cd156 rfl rfl hs ?_
  refine wa_ (wc_region (w_ (b_ (h := wo_nil (e_ (h := aft_normal (wa_ (?_))))))))
  refine c_ (h1 := ?_) (h2 := ?_)
  rotate_right 1
  focus
   intro c1
   first
   | exact dn c1
   | (have d1 := c1; try simp at d1
      refine wc_exit (?_)
      )
  rotate_right 1
  focus
   intro c1
   first
   | exact dn c1
   | (have d1 := c1; try simp at d1
      have hw := wrap_succ (i := i) (by omega); obtain ⟨x, hx, e1, g1⟩ := ints_cut (l := r) (i := i) (by omega)
      refine wc_skip (?_)
      )
  all_goals first
  | refine aft_exit ?_
  | (refine aft_normal ?_
     refine wa_ (wc_block (wa_ (wc_region (w_ (x_ (h := w_ (l_ (h := w_ (a_ (h := wo_nil (e_ (h := aft_normal (wc_region (w_ (m_ (h := w_ (b_ (h := ?_))))))))))))))))))
     refine w_ (m_ (h := w_ (b_ (h := w_ (b_ (h := w_ (b_ (h := w_ (b_ (h := w_ (b_ (h := w_ (a_ (h := wo_nil (e_ (h := blk_normal (aft_normal (wc_region (w_ (b_ (h := ?_)))))))))))))))))))))
     refine w_ (m_ (h := wo_nil (e_ (h := ?_))))
     )
  all_goals first
  | (refine (ih ((i + 1, hashC h x)) (by simp; omega) ?_ _ ?_).trans ?_; (focus (first | omega | (simp; done) | (simp; omega))); (focus (simp [normE, hw, hashC]; done)); (focus (simp only [e1, List.foldl_cons])))
  | (apply end_leaf (ex := (Ext.exit 0)) 1 (some [3]); (focus (simp [normE]; rfl)); (focus (simp only [List.drop_eq_nil_of_le (show r.length ≤ i by omega), List.foldl_nil])))
theorem e_hashI (r : List Int) (h : r.length < 2000000) : oc.call 156 [.lst false 0 (ints r)] = some (.int .i64 (hashN r), []) := by
  refine fun_s rfl cd156 rfl rfl rfl (by simp; rfl) (by simp; rfl) ?_
  refine wa_ (wc_region (w_ (a_ (h := wo_nil (e_ (h := aft_normal (wa_ (wc_region (w_ (a_ (h := wo_nil (e_ (h := aft_normal (wa_ (wa_ (?_))))))))))))))))
  refine wc_region (w_ (m_ (h := w_ (le (h := w_ (m_ (h := wo_nil (e_ (h := aft_normal (wc_block (?_)))))))))))
  refine wc_loop (l_hashI r h (0, 17) (by simp) _ (by simp [normE])) ?_
  refine blk_exit (aft_normal (wa_ (wc_region (w_ (m_ (h := w_ (a_ (h := wo_nil (e_ (h := aft_normal (wc_ret (?_))))))))))))
  all_goals (refine fin_ (hr := (res_tmp rfl res_nil)) (h := ?_); (focus (simp [hashN])))
theorem l_hashS (r : List Int) (hr : r.length < 2000000) : ∀ x : Nat × Int, (x.1 ≤ r.length) → ∀ s, normE 1 (some [0, 3, 4]) s = ⟨[(0, .lst false 0 (ints r)), (3, .int .i64 x.2), (4, .int .i64 x.1)], [], 1⟩ →
    oc.loop 148 3 s = some (.exit 0, ⟨[(3, .int .i64 ((r.drop x.1).foldl hashC x.2))], [], 1⟩) := by
  refine loop_ind (σ := Nat × Int) (fun x => r.length - x.1) _ (fun x => ⟨[(0, .lst false 0 (ints r)), (3, .int .i64 x.2), (4, .int .i64 x.1)], [], 1⟩) _ ?_
  rintro ⟨i, h⟩ hi ih s hs
  simp only at hi
  refine loop_s cd148 rfl rfl hs ?_
  refine wa_ (wa_ (wc_region (w_ (m_ (h := w_ (m_ (h := w_ (le (h := w_ (b_ (h := wo_nil (e_ (h := aft_normal (?_))))))))))))))
  refine c_ (h1 := ?_) (h2 := ?_)
  rotate_right 1
  focus
   intro c1
   first
   | exact dn c1
   | (have d1 := c1; try simp at d1
      refine wc_exit (?_)
      )
  rotate_right 1
  focus
   intro c1
   first
   | exact dn c1
   | (have d1 := c1; try simp at d1
      have hw := wrap_succ (i := i) (by omega); obtain ⟨x, hx, e1, g1⟩ := ints_cut (l := r) (i := i) (by omega)
      refine wc_skip (?_)
      )
  all_goals first
  | refine aft_exit ?_
  | (refine aft_normal ?_
     refine wa_ (wc_block (wa_ (wc_region (w_ (m_ (h := w_ (m_ (h := w_ (x_ (h := w_ (l_ (h := w_ (b_ (h := w_ (b_ (h := w_ (b_ (h := w_ (a_ (h := ?_))))))))))))))))))))
     refine wo_nil (e_ (h := aft_normal (wc_region (w_ (m_ (h := w_ (b_ (h := w_ (m_ (h := w_ (b_ (h := w_ (b_ (h := w_ (a_ (h := wo_nil (e_ (h := blk_normal (aft_normal (?_))))))))))))))))))))
     refine wc_region (w_ (m_ (h := w_ (b_ (h := w_ (a_ (h := wo_nil (e_ (h := ?_)))))))))
     )
  all_goals first
  | (refine (ih ((i + 1, hashC h x)) (by simp; omega) ?_ _ ?_).trans ?_; (focus (first | omega | (simp; done) | (simp; omega))); (focus (simp [normE, hw, hashC]; done)); (focus (simp only [e1, List.foldl_cons])))
  | (apply end_leaf (ex := (Ext.exit 0)) 1 (some [3]); (focus (simp [normE]; rfl)); (focus (simp only [List.drop_eq_nil_of_le (show r.length ≤ i by omega), List.foldl_nil])))
theorem e_hashS (r : List Int) (h : r.length < 2000000) : oc.call 148 [.lst false 0 (ints r)] = some (.int .i64 (hashN r), []) := by
  refine fun_s rfl cd148 rfl rfl rfl (by simp; rfl) (by simp; rfl) ?_
  refine wa_ (wc_region (w_ (a_ (h := wo_nil (e_ (h := aft_normal (wa_ (wc_region (w_ (a_ (h := wo_nil (e_ (h := aft_normal (wa_ (wa_ (?_))))))))))))))))
  refine wc_region (w_ (a_ (h := wo_nil (e_ (h := aft_normal (wc_block (?_)))))))
  refine wc_loop (l_hashS r h (0, 17) (by simp) _ (by simp [normE])) ?_
  refine blk_exit (aft_normal (wa_ (wc_region (w_ (m_ (h := w_ (a_ (h := wo_nil (e_ (h := aft_normal (wc_ret (?_))))))))))))
  all_goals (refine fin_ (hr := (res_tmp rfl res_nil)) (h := ?_); (focus (simp [hashN])))
theorem hashC_in {h c : Int} (h0 : 0 ≤ h) (h1 : h < 1000003) : 0 ≤ hashC h c ∧ hashC h c < 1000003 := by
  unfold hashC
  have a1 : -1000003 < c.tmod 1000003 ∧ c.tmod 1000003 < 1000003 := ⟨by have := Int.lt_tmod_of_pos c (b := 1000003) (by decide); omega, Int.tmod_lt_of_pos c (by decide)⟩
  rw [wrap_id (a := c.tmod 1000003 + 1000003) (by omega) (by omega), wrap_id (a := h * 131) (by omega) (by omega)]
  generalize hq : (c.tmod 1000003 + 1000003).tmod 1000003 = q
  have a2 : 0 ≤ q ∧ q < 1000003 := by rw [← hq]; exact ⟨Int.tmod_nonneg _ (by omega), Int.tmod_lt_of_pos _ (by decide)⟩
  rw [wrap_id (by omega) (by omega)]
  exact ⟨Int.tmod_nonneg _ (by omega), Int.tmod_lt_of_pos _ (by decide)⟩
theorem hashN_in (r : List Int) : 0 ≤ hashN r ∧ hashN r < 1000003 := by
  have : ∀ (r : List Int) (h : Int), 0 ≤ h → h < 1000003 → 0 ≤ r.foldl hashC h ∧ r.foldl hashC h < 1000003 := by
    intro r
    induction r with
    | nil => intro h h0 h1; exact ⟨h0, h1⟩
    | cons c r ih => intro h h0 h1; exact ih _ (hashC_in h0 h1).1 (hashC_in h0 h1).2
  exact this r 17 (by decide) (by decide)
def shardN (m : Int) (r : List Int) (k : Int) : Int := (hashN (r.take k.toNat)).tmod m
theorem shardN_in {m : Int} {r : List Int} {k : Int} (hm : 0 < m) : 0 ≤ shardN m r k ∧ shardN m r k < m := by
  have := hashN_in (r.take k.toNat)
  exact ⟨Int.tmod_nonneg _ this.1, Int.tmod_lt_of_pos _ hm⟩
theorem e_shardI (m k : Int) (r : List Int) (h : r.length < 2000000) (hm : m ≠ 0) (h0 : 0 ≤ k) (h1 : k ≤ r.length) : oc.call 80 [.int .i64 m, .lst false 0 (ints r), .int .i64 k] = some (.int .i64 (shardN m r k), []) := by
  refine fun_s rfl cd80 rfl rfl rfl (by simp; rfl) (by simp; rfl) ?_
  refine wa_ (wc_region (w_ (a_ (h := wo_nil (e_ (h := aft_normal (wa_ (wc_region (w_ (m_ (h := w_ (m_ (h := w_ (sl (h := w_ (ca (hc := e_hashI _ (by simp; omega)) (h := w_ (m_ (h := ?_)))))))))))))))))))
  refine w_ (b_ (h := w_ (a_ (h := wo_nil (e_ (h := aft_normal (wc_ret (?_))))))))
  all_goals (refine fin_ (hr := (res_tmp rfl res_nil)) (h := ?_); (focus (simp [shardN])))
theorem e_shardS (m k : Int) (r : List Int) (h : r.length < 2000000) (hm : m ≠ 0) (h0 : 0 ≤ k) (h1 : k ≤ r.length) : oc.call 72 [.int .i64 m, .lst false 0 (ints r), .int .i64 k] = some (.int .i64 (shardN m r k), []) := by
  refine fun_s rfl cd72 rfl rfl rfl (by simp; rfl) (by simp; rfl) ?_
  refine wa_ (wc_region (w_ (a_ (h := wo_nil (e_ (h := aft_normal (wa_ (wc_region (w_ (m_ (h := w_ (m_ (h := w_ (sl (h := w_ (ca (hc := e_hashS _ (by simp; omega)) (h := w_ (m_ (h := ?_)))))))))))))))))))
  refine w_ (b_ (h := w_ (a_ (h := wo_nil (e_ (h := aft_normal (wc_ret (?_))))))))
  all_goals (refine fin_ (hr := (res_tmp rfl res_nil)) (h := ?_); (focus (simp [shardN])))
def widN (pl : List Nd) : List Int := (lookN pl).1
theorem lookR_good {pl : List Nd} (hk : okN pl) (hp : pl.length < 2000000) : ∀ (r : List Nd) (ws : List Int), r = pl.drop ws.length → Good pl ws → (∀ k : Nat, k < ws.length → 1 ≤ at0 ws k ∧ at0 ws k ≤ 4) → (lookR pl r ws).2 = 0 → Good pl (lookR pl r ws).1 ∧ (lookR pl r ws).1.length = max pl.length ws.length ∧ ∀ k : Nat, k < (lookR pl r ws).1.length → 1 ≤ at0 (lookR pl r ws).1 k ∧ at0 (lookR pl r ws).1 k ≤ 4
  | [], ws, e, G, hb, _ => by
    have : pl.length ≤ ws.length := by
      have := congrArg List.length e; simp at this; omega
    unfold lookR
    exact ⟨G, by simp; omega, hb⟩
  | d :: r, ws, e, G, hb, h => by
    unfold lookR at h ⊢
    have hx : pl[ws.length]? = some d := by
      have := congrArg (fun l => l[0]?) e
      simpa using this.symm
    have hlt := (List.getElem?_eq_some_iff.mp hx).1
    have hr : r = pl.drop (ws.length + 1) := by
      have := congrArg List.tail e
      simpa [List.tail_drop] using this
    split at h
    · rename_i hs
      rw [if_pos hs]
      have hf := step_ok (by omega) hs
      have hw : 1 ≤ widthN d ws ∧ widthN d ws ≤ 4 := by
        obtain ⟨f1, f2⟩ := hf
        have ha : d.op ≠ 1 → 1 ≤ at0 ws d.a ∧ at0 ws d.a ≤ 4 := fun ho => by
          have := f1 ho
          have := hb d.a.toNat (by omega)
          rwa [Int.toNat_of_nonneg (by omega)] at this
        have hb2 : d.op = 4 ∨ d.op = 6 → 1 ≤ at0 ws d.b ∧ at0 ws d.b ≤ 4 := fun ho => by
          have := f2 ho
          have := hb d.b.toNat (by omega)
          rwa [Int.toNat_of_nonneg (by omega)] at this
        have h0 : faultN d ws = 0 := by
          unfold stepC at hs
          split at hs
          · cases hs
          · split at hs
            · cases hs
            · split at hs
              · cases hs
              · exact hs
        unfold faultN at h0
        unfold widthN
        by_cases o1 : d.op = 1
        · rw [if_pos o1] at h0 ⊢
          simp [inI] at h0; omega
        · rw [if_neg o1] at h0 ⊢
          have ha := ha o1
          by_cases o2 : d.op = 2
          · rw [if_neg (by omega), if_neg (by omega), if_neg (by simp [inI]; omega)]; exact ha
          · rw [if_neg o2] at h0
            by_cases o3 : d.op = 3
            · rw [if_pos o3] at h0 ⊢
              have : inI d.cells.length 1 4 = true := by
                cases hi : inI d.cells.length 1 4 with
                | true => rfl
                | false => rw [hi] at h0; simp at h0
              simp [inI] at this; omega
            · rw [if_neg o3] at h0 ⊢
              by_cases o4 : d.op = 4
              · rw [if_neg (by omega), if_neg (by simp [inI]; omega)]; exact ha
              · rw [if_neg o4] at h0
                by_cases o6 : d.op = 6
                · have hb2 := hb2 (.inr o6)
                  rw [if_pos o6] at h0 ⊢
                  have w1 : IntKind.i64.wrap (at0 ws d.a + at0 ws d.b) = at0 ws d.a + at0 ws d.b := wrap_id (by omega) (by omega)
                  have hi : inI d.col 1 (min (at0 ws d.a) (at0 ws d.b)) = true := by
                    cases hi : inI d.col 1 (min (at0 ws d.a) (at0 ws d.b)) with
                    | true => rfl
                    | false => rw [hi] at h0; simp at h0
                  rw [hi, if_pos rfl] at h0
                  have hle : ¬ 4 < widthN d ws := fun hc => by rw [if_pos hc] at h0; cases h0
                  unfold widthN at hle
                  rw [if_neg o1, if_neg o3, if_pos o6] at hle
                  simp only [inI, Bool.and_eq_true, decide_eq_true_eq] at hi
                  have w2 : IntKind.i64.wrap (at0 ws d.a + at0 ws d.b - d.col) = at0 ws d.a + at0 ws d.b - d.col := wrap_id (by omega) (by omega)
                  rw [w1, w2] at hle ⊢
                  omega
                · rw [if_neg o6] at h0 ⊢
                  by_cases o7 : d.op = 7
                  · rw [if_pos o7] at h0
                    have hi : inI d.col 0 (min (at0 ws d.a) 3) = true := by
                      cases hi : inI d.col 0 (min (at0 ws d.a) 3) with
                      | true => rfl
                      | false => rw [hi] at h0; simp at h0
                    simp only [inI, Bool.and_eq_true, decide_eq_true_eq] at hi
                    rw [if_pos (by simp [inI]; omega), wrap_id (by omega) (by omega)]; omega
                  · rw [if_neg o7] at h0
                    by_cases o8 : 8 ≤ d.op ∧ d.op ≤ 10
                    · rw [if_pos o8] at h0
                      have hi : inI d.col 0 (IntKind.i64.wrap (at0 ws d.a - 1)) = true := by
                        cases hi : inI d.col 0 (IntKind.i64.wrap (at0 ws d.a - 1)) with
                        | true => rfl
                        | false => rw [hi] at h0; simp at h0
                      rw [wrap_id (by omega) (by omega)] at hi
                      simp only [inI, Bool.and_eq_true, decide_eq_true_eq] at hi
                      rw [if_pos (by simp [inI]; omega), wrap_id (by omega) (by omega)]; omega
                    · rw [if_neg (by simp [inI]; omega)]; exact ha
      have key := lookR_good hk hp r (ws ++ [widthN d ws]) (by simpa using hr) (good_snoc hk (by omega) G hx hs) (by
        intro k hk2
        by_cases hc : k < ws.length
        · have := hb k hc
          simp only [at0, List.getD_eq_getElem?_getD, List.getElem?_append_left (show (k : Int).toNat < ws.length by omega)] at this ⊢
          exact this
        · have : k = ws.length := by simp at hk2; omega
          subst this
          simpa [at0, List.getD_eq_getElem?_getD] using hw) h
      refine ⟨key.1, ?_, key.2.2⟩
      rw [key.2.1]; simp; omega
    · exact absurd h ‹_›
theorem look_good {pl : List Nd} (hk : okN pl) (h : (lookN pl).2 = 0) : Good pl (widN pl) ∧ (widN pl).length = pl.length ∧ (∀ k : Nat, k < pl.length → 1 ≤ at0 (widN pl) k ∧ at0 (widN pl) k ≤ 4) ∧ 1 ≤ pl.length ∧ pl.length ≤ 8 := by
  unfold widN
  unfold lookN at h ⊢
  split at h
  · cases h
  · rename_i hl
    rw [if_neg hl]
    simp [inI] at hl
    split at h
    · rename_i h0
      rw [if_pos h0]
      have := lookR_good hk (by omega) pl [] rfl (good_nil pl) (fun k hk => by simp at hk) h0
      have hlen : (lookR pl pl []).1.length = pl.length := by rw [this.2.1]; simp
      exact ⟨this.1, hlen, fun k hk2 => this.2.2 k (by omega), by omega, by omega⟩
    · exact absurd h ‹_›
end Go.Proofs.Ytgkbmiaimjpbfaa.Ev
namespace Go.Proofs.Ytgkbmiaimjpbfaa.Ev
open Go
set_option maxRecDepth 100000
set_option linter.unusedSimpArgs false
set_option linter.unusedVariables false
set_option maxHeartbeats 2000000
theorem wid_at {pl : List Nd} (hk : okN pl) (h : (lookN pl).2 = 0) {a : Int} (h0 : 0 ≤ a) (h1 : a < pl.length) : 1 ≤ at0 (widN pl) a ∧ at0 (widN pl) a ≤ 4 := by
  have := (look_good hk h).2.2.1 a.toNat (by omega)
  rwa [Int.toNat_of_nonneg h0] at this
theorem nd_at {pl : List Nd} {a : Int} (h0 : 0 ≤ a) (h1 : a < pl.length) : ∃ d, pl[a.toNat]? = some d ∧ (nds false 0 pl)[a.toNat]? = some (d.v false 0) := by
  have : a.toNat < pl.length := by omega
  exact ⟨pl[a.toNat], by simp [this], by simp [nds, this]⟩
def ndAt (pl : List Nd) (a : Int) : Nd := (pl[a.toNat]?).getD ⟨0, 0, 0, 0, 0, 0, []⟩
theorem ndAt_of {pl : List Nd} {a : Int} {d : Nd} (h : pl[a.toNat]? = some d) : ndAt pl a = d := by simp [ndAt, h]
def nodeC (pl : List Nd) (a : Int) : Int := if (lookN pl).2 = 0 then (if inI a 0 ((pl.length : Int) - 1) = true then 0 else 3) else (lookN pl).2
theorem nodeC_zero {pl : List Nd} {a : Int} (h : nodeC pl a = 0) : (lookN pl).2 = 0 ∧ 0 ≤ a ∧ a < pl.length := by
  unfold nodeC at h; split at h
  · split at h
    · rename_i h1 h2; simp [inI] at h2; exact ⟨h1, by omega, by omega⟩
    · cases h
  · exact absurd h ‹_›
theorem e_nodeC (pl : List Nd) (a : Int) (hp : pl.length < 2000000) (hk : okN pl) : oc.call 111 [.lst false 0 (nds false 0 pl), .int .i64 a] = some (.tup [.lst true 1 (ints (widN pl)), .int .i64 (nodeC pl a)], []) := by
  refine fun_s rfl cd111 rfl rfl rfl (by simp; rfl) (by simp; rfl) ?_
  have hw : IntKind.i64.wrap ((pl.length : Int) - 1) = pl.length - 1 := wrap_id (by omega) (by omega)
  refine wa_ (wc_region (w_ (aN (h := w_ (a_ (h := wo_nil (e_ (h := aft_normal (wa_ (wc_region (w_ (m_ (h := w_ (ca (hc := e_looked pl hp hk) (h := w_ (m_ (h := w_ (ex (h := ?_)))))))))))))))))))
  refine w_ (ex (h := w_ (a_ (h := w_ (a_ (h := wo_nil (e_ (h := aft_normal (wa_ (wa_ (wc_region (w_ (m_ (h := w_ (bE (h := w_ (m_ (h := ?_))))))))))))))))))
  refine gw_ (h1 := ?_) (h2 := ?_)
  rotate_right 1
  focus
   intro c1
   first
   | exact dn c1
   | (have d1 := c1; try simp at d1
      refine go_ (h := go_ (h := go_ (h := go_ (h := go_ (h := go_ (h := ?_))))))
      )
  rotate_right 1
  focus
   intro c1
   first
   | exact dn c1
   | (have d1 := c1; try simp at d1
      refine g_ (h := w_ (m_ (h := g_ (h := w_ (m_ (h := g_ (h := w_ (ca (hc := e_sizeN _ _ (by simp; omega)) (h := g_ (h := w_ (b_ (h := g_ (h := w_ (ca (hc := e_in _ _ _) (h := g_ (h := w_ (u_ (h := ?_))))))))))))))))))
      )
  all_goals
   refine w_ (pk (h := wo_nil (e_ (h := ?_))))
  all_goals first
  | (refine aft_normal ?_
     refine c_ (h1 := ?_) (h2 := ?_)
     rotate_right 1
     focus
      intro c2
      first
      | exact dn c2
      | (have d2 := c2; try simp at d2
         refine wc_skip (?_)
         )
     rotate_right 1
     focus
      intro c2
      first
      | exact dn c2
      | (have d2 := c2; try simp at d2
         refine wc_region (w_ (a_ (h := wo_nil (e_ (h := ?_)))))
         )
     )
  all_goals first
  | (refine aft_normal ?_
     refine wa_ (wc_region (w_ (m_ (h := w_ (m_ (h := w_ (a_ (h := w_ (a_ (h := wo_nil (e_ (h := aft_normal (wc_ret (?_))))))))))))))
     )
  all_goals (refine fin_ (hr := (res_tmp rfl (res_tmp rfl res_nil))) (h := ?_); (focus (clear hk; simp [widN, nodeC, hw] at * <;> grind)))
theorem e_l3Asked (pl : List Nd) (a : Int) (hp : pl.length < 2000000) (hk : okN pl) : oc.call 104 [.lst false 0 (nds false 0 pl), .int .i64 a] = some (.int .i64 (nodeC pl a), []) := by
  refine fun_s rfl cd104 rfl rfl rfl (by simp; rfl) (by simp; rfl) ?_
  have hw : IntKind.i64.wrap ((pl.length : Int) - 1) = pl.length - 1 := wrap_id (by omega) (by omega)
  refine wa_ (wc_region (w_ (a_ (h := wo_nil (e_ (h := aft_normal (wa_ (wa_ (wc_region (w_ (m_ (h := w_ (ca (hc := e_planS pl hp hk) (h := w_ (a_ (h := wo_nil (e_ (h := ?_))))))))))))))))))
  refine aft_normal (wa_ (wc_region (w_ (m_ (h := w_ (bE (h := wo_nil (e_ (h := aft_normal (?_))))))))))
  refine c_ (h1 := ?_) (h2 := ?_)
  rotate_right 1
  focus
   intro c1
   first
   | exact dn c1
   | (have d1 := c1; try simp at d1
      refine wc_skip (?_)
      )
  rotate_right 1
  focus
   intro c1
   first
   | exact dn c1
   | (have d1 := c1; try simp at d1
      refine wa_ (wc_region (w_ (m_ (h := w_ (a_ (h := wo_nil (e_ (h := aft_normal (wc_ret (?_))))))))))
      )
  all_goals first
  | refine aft_ret ?_
  | (refine aft_normal ?_
     refine wa_ (wa_ (wc_region (w_ (m_ (h := w_ (m_ (h := w_ (le (h := w_ (b_ (h := w_ (ca (hc := e_l1In _ _ _) (h := w_ (u_ (h := wo_nil (e_ (h := aft_normal (?_))))))))))))))))))
     refine c_ (h1 := ?_) (h2 := ?_)
     rotate_right 1
     focus
      intro c2
      first
      | exact dn c2
      | (have d2 := c2; try simp at d2
         refine wc_skip (?_)
         )
     rotate_right 1
     focus
      intro c2
      first
      | exact dn c2
      | (have d2 := c2; try simp at d2
         refine wa_ (wc_region (w_ (a_ (h := wo_nil (e_ (h := aft_normal (wc_ret (?_))))))))
         )
     all_goals first
     | refine aft_ret ?_
     | (refine aft_normal ?_
        refine wa_ (wc_region (w_ (a_ (h := wo_nil (e_ (h := aft_normal (wc_ret (?_))))))))
        )
     )
  all_goals (refine fin_ (hr := (res_tmp rfl res_nil)) (h := ?_); (focus (clear hk; simp [nodeC, hw] at * <;> grind)))
def keyN (pl : List Nd) (a : Int) : Int := if (ndAt pl a).op = 1 ∨ 6 ≤ (ndAt pl a).op ∧ (ndAt pl a).op ≤ 10 then (ndAt pl a).col else at0 (widN pl) (ndAt pl a).a
theorem in_at {pl : List Nd} (hk : okN pl) (h : (lookN pl).2 = 0) {a : Int} {d : Nd} (h0 : 0 ≤ a) (hd : pl[a.toNat]? = some d) : (1 ≤ d.op ∧ d.op ≤ 12) ∧ (d.op ≠ 1 → 0 ≤ d.a ∧ d.a < a) ∧ (d.op = 4 ∨ d.op = 6 → 0 ≤ d.b ∧ d.b < a) := by
  have hw := look_wf h a.toNat d hd
  have : ∀ (r : List Nd) (ws : List Int), r = pl.drop ws.length → (lookR pl r ws).2 = 0 → ∀ (n : Nat) d, ws.length ≤ n → pl[n]? = some d → 1 ≤ d.op ∧ d.op ≤ 12 := by
    intro r
    induction r with
    | nil =>
      intro ws e _ n d hn hd
      have : pl.length ≤ ws.length := by have := congrArg List.length e; simp at this; omega
      have := (List.getElem?_eq_some_iff.mp hd).1
      omega
    | cons x r ih =>
      intro ws e h n d hn hd
      unfold lookR at h
      have hx : pl[ws.length]? = some x := by
        have := congrArg (fun l => l[0]?) e
        simpa using this.symm
      have hr : r = pl.drop (ws.length + 1) := by
        have := congrArg List.tail e
        simpa [List.tail_drop] using this
      split at h
      · rename_i hs
        by_cases hc : n = ws.length
        · subst hc
          rw [hx] at hd
          cases hd
          unfold stepC at hs
          split at hs
          · cases hs
          · rename_i h1
            simp [inI] at h1; omega
        · exact ih (ws ++ [widthN x ws]) (by simpa using hr) h n d (by simp; omega) hd
      · exact absurd h ‹_›
  have h2 : (lookR pl pl []).2 = 0 := by
    unfold lookN at h
    split at h
    · cases h
    · split at h
      · exact ‹_›
      · exact absurd h ‹_›
  have h3 := this pl [] rfl h2 a.toNat d (by simp) hd
  obtain ⟨f1, f2⟩ := hw
  exact ⟨h3, fun ho => by have := f1 ho; omega, fun ho => by have := f2 ho; omega⟩
theorem wid_in {pl : List Nd} (hk : okN pl) (h : (lookN pl).2 = 0) {a : Int} {d : Nd} (h0 : 0 ≤ a) (hd : pl[a.toNat]? = some d) (ho : d.op = 1) : at0 (widN pl) a = d.col := by
  have G := (look_good hk h).1
  have hl := (look_good hk h).2.1
  have hlt := (List.getElem?_eq_some_iff.mp hd).1
  obtain ⟨e, h1, h2, _⟩ := G a.toNat (by omega)
  rw [hd] at h1
  cases h1
  rw [Int.toNat_of_nonneg h0] at h2
  rw [h2, widthN, if_pos ho]
theorem e_keyI (pl : List Nd) (a : Int) (hp : pl.length < 2000000) (hk : okN pl) (hc : nodeC pl a = 0) : oc.call 119 [.lst false 0 (nds false 0 pl), .lst false 0 (ints (widN pl)), .int .i64 a] = some (.int .i64 (keyN pl a), []) := by
  refine fun_s rfl cd119 rfl rfl rfl (by simp; rfl) (by simp; rfl) ?_
  obtain ⟨k1, k2, k3⟩ := nodeC_zero hc
  obtain ⟨d, hd, g1⟩ := nd_at k2 k3
  obtain ⟨⟨o1, o2⟩, o3, o4⟩ := in_at hk k1 k2 hd
  have hlw := (look_good hk k1).2.1
  have g2 := ints_ix (w := widN pl) k2 (by omega)
  refine wa_ (wc_region (w_ (a_ (h := wo_nil (e_ (h := aft_normal (wa_ (wc_region (w_ (m_ (h := w_ (m_ (h := w_ (x_ (h := w_ (l_ (h := w_ (al (h := ?_)))))))))))))))))))
  refine w0 (s_ (h := wo_nil (e_ (h := aft_normal (wc_block (wa_ (wc_region (w_ (f_ (h := w_ (l_ (h := w_ (bE (h := w_ (m_ (h := ?_))))))))))))))))
  refine gw_ (h1 := ?_) (h2 := ?_)
  rotate_right 1
  focus
   intro c1
   first
   | exact dn c1
   | (have d1 := c1; try simp at d1
      refine go_ (h := go_ (h := go_ (h := ?_)))
      )
  rotate_right 1
  focus
   intro c1
   first
   | exact dn c1
   | (have d1 := c1; try simp at d1
      refine g_ (h := w_ (f_ (h := g_ (h := w_ (l_ (h := g_ (h := w_ (ca (hc := e_grouped _) (h := ?_)))))))))
      )
  all_goals
   refine w_ (pk (h := w_ (a_ (h := wo_nil (e_ (h := ?_))))))
  all_goals first
  | (refine aft_normal ?_
     refine c_ (h1 := ?_) (h2 := ?_)
     rotate_right 1
     focus
      intro c2
      first
      | exact dn c2
      | (have d2 := c2; try simp at d2
         refine wa_ (wc_region (w_ (f_ (h := w_ (l_ (h := w_ (bE (h := w_ (a_ (h := wo_nil (e_ (h := aft_normal (?_)))))))))))))
         refine c_ (h1 := ?_) (h2 := ?_)
         rotate_right 1
         focus
          intro c3
          first
          | exact dn c3
          | (have d3 := c3; try simp at d3
             have g3 := ints_ix (w := widN pl) (o3 (by omega)).1 (by have := o3 (by omega); omega)
             refine wa_ (wc_region (w_ (m_ (h := w_ (f_ (h := w_ (l_ (h := w_ (x_ (h := w_ (l_ (h := w_ (a_ (h := wo_nil (e_ (h := aft_normal (wc_ret (?_))))))))))))))))))
             )
         rotate_right 1
         focus
          intro c3
          first
          | exact dn c3
          | (have d3 := c3; try simp at d3
             refine wa_ (wc_region (w_ (m_ (h := w_ (m_ (h := w_ (x_ (h := w_ (l_ (h := w_ (a_ (h := wo_nil (e_ (h := aft_normal (wc_ret (?_))))))))))))))))
             )
         )
     rotate_right 1
     focus
      intro c2
      first
      | exact dn c2
      | (have d2 := c2; try simp at d2
         refine wa_ (wc_region (w_ (f_ (h := w_ (l_ (h := w_ (a_ (h := wo_nil (e_ (h := aft_normal (wc_ret (?_))))))))))))
         )
     )
  all_goals refine blk_ret ?_
  all_goals (refine fin_ (hr := (res_tmp rfl res_nil)) (h := ?_); (focus (have hwi := wid_in hk k1 k2 hd; clear hk; simp only [keyN, ndAt_of hd]; simp [inI] at * <;> grind)))
theorem e_keyS (pl : List Nd) (a : Int) (hp : pl.length < 2000000) (hk : okN pl) (hc : nodeC pl a = 0) : oc.call 116 [.lst false 0 (nds false 0 pl), .int .i64 a] = some (.int .i64 (keyN pl a), []) := by
  refine fun_s rfl cd116 rfl rfl rfl (by simp; rfl) (by simp; rfl) ?_
  obtain ⟨k1, k2, k3⟩ := nodeC_zero hc
  obtain ⟨d, hd, g1⟩ := nd_at k2 k3
  obtain ⟨⟨o1, o2⟩, o3, o4⟩ := in_at hk k1 k2 hd
  have hlw := (look_good hk k1).2.1
  refine wa_ (wc_region (w_ (a_ (h := wo_nil (e_ (h := aft_normal (wa_ (wc_region (w_ (m_ (h := w_ (m_ (h := w_ (x_ (h := w_ (l_ (h := w_ (al (h := ?_)))))))))))))))))))
  refine w0 (s_ (h := wo_nil (e_ (h := aft_normal (wa_ (wa_ (wc_region (w_ (f_ (h := w_ (l_ (h := wo_nil (e_ (h := aft_normal (wc_block (wa_ (?_)))))))))))))))))
  refine wa_ (wc_region (w_ (bE (h := w_ (a_ (h := wo_nil (e_ (h := aft_normal (?_)))))))))
  refine c_ (h1 := ?_) (h2 := ?_)
  rotate_right 1
  focus
   intro c1
   first
   | exact dn c1
   | (have d1 := c1; try simp at d1
      refine wa_ (wc_region (w_ (bE (h := w_ (a_ (h := wo_nil (e_ (h := aft_normal (?_)))))))))
      refine c_ (h1 := ?_) (h2 := ?_)
      rotate_right 1
      focus
       intro c2
       first
       | exact dn c2
       | (have d2 := c2; try simp at d2
          refine wa_ (wc_region (w_ (bE (h := w_ (a_ (h := wo_nil (e_ (h := aft_normal (?_)))))))))
          refine c_ (h1 := ?_) (h2 := ?_)
          rotate_right 1
          focus
           intro c3
           first
           | exact dn c3
           | (have d3 := c3; try simp at d3
              refine wa_ (wc_region (w_ (bE (h := w_ (a_ (h := wo_nil (e_ (h := aft_normal (?_)))))))))
              refine c_ (h1 := ?_) (h2 := ?_)
              rotate_right 1
              focus
               intro c4
               first
               | exact dn c4
               | (have d4 := c4; try simp at d4
                  refine wa_ (wc_region (w_ (bE (h := w_ (a_ (h := wo_nil (e_ (h := aft_normal (?_)))))))))
                  refine c_ (h1 := ?_) (h2 := ?_)
                  rotate_right 1
                  focus
                   intro c5
                   first
                   | exact dn c5
                   | (have d5 := c5; try simp at d5
                      refine wc_region (w_ (bE (h := w_ (a_ (h := wo_nil (e_ (h := ?_)))))))
                      )
                  rotate_right 1
                  focus
                   intro c5
                   first
                   | exact dn c5
                   | (have d5 := c5; try simp at d5
                      refine wc_skip (?_)
                      )
                  )
              rotate_right 1
              focus
               intro c4
               first
               | exact dn c4
               | (have d4 := c4; try simp at d4
                  refine wc_skip (?_)
                  )
              )
          rotate_right 1
          focus
           intro c3
           first
           | exact dn c3
           | (have d3 := c3; try simp at d3
              refine wc_skip (?_)
              )
          )
      rotate_right 1
      focus
       intro c2
       first
       | exact dn c2
       | (have d2 := c2; try simp at d2
          refine wc_skip (?_)
          )
      )
  rotate_right 1
  focus
   intro c1
   first
   | exact dn c1
   | (have d1 := c1; try simp at d1
      refine wc_skip (?_)
      )
  all_goals first
  | (refine aft_normal ?_
     refine c_ (h1 := ?_) (h2 := ?_)
     rotate_right 1
     focus
      intro c6
      first
      | exact dn c6
      | (have d6 := c6; try simp at d6
         refine wc_skip (?_)
         )
     rotate_right 1
     focus
      intro c6
      first
      | exact dn c6
      | (have d6 := c6; try simp at d6
         refine wa_ (wc_region (w_ (f_ (h := w_ (l_ (h := w_ (a_ (h := wo_nil (e_ (h := aft_normal (wc_ret (?_))))))))))))
         )
     )
  all_goals first | refine blk_normal ?_ | refine blk_ret ?_
  all_goals first
  | refine aft_ret ?_
  | (refine aft_normal ?_
     refine wa_ (wc_region (w_ (m_ (h := w_ (f_ (h := w_ (l_ (h := w_ (ca (hc := e_l3WidthI pl (widN pl) hp (look_good hk k1).1 _ (o3 (by omega)).1 (by have := o3 (by omega); omega)) (h := w_ (a_ (h := wo_nil (e_ (h := aft_normal (wc_ret (?_))))))))))))))))
     )
  all_goals (refine fin_ (hr := (res_tmp rfl res_nil)) (h := ?_); (focus (clear hk; simp only [keyN, ndAt_of hd]; simp at * <;> grind)))
end Go.Proofs.Ytgkbmiaimjpbfaa.Ev
