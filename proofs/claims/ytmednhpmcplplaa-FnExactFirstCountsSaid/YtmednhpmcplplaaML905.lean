/- Part 5 of the proof that the law named in the last part returns true at every argument: an evaluator of the program, shown sound, and its runs. No further conditions. -/
import Derived.Test.YtmednhpmcplplaaML904
namespace Go.Proofs.Ytmednhpmcplplaa.Ev
open Go
set_option maxRecDepth 100000
set_option linter.unusedSimpArgs false
set_option linter.unusedVariables false
set_option maxHeartbeats 2000000
def isPl (pl : List Nd) (a : Int) : Bool := inI a 0 (2 * (pl.length : Int) - 1)
theorem e_isPlace (pl : List Nd) (a : Int) (hp : pl.length < 2000000) : oc.call 94 [.lst false 0 (nds false 0 pl), .int .i64 a] = some (.bool (isPl pl a), []) := by
  refine fun_s rfl cd94 rfl rfl rfl (by simp; rfl) (by simp; rfl) ?_
  have h1 : IntKind.i64.wrap (2 * (pl.length : Int)) = 2 * pl.length := wrap_id (by omega) (by omega)
  have h2 : IntKind.i64.wrap (2 * (pl.length : Int) - 1) = 2 * pl.length - 1 := wrap_id (by omega) (by omega)
  refine wa_ (wc_region (w_ (a_ (h := wo_nil (e_ (h := aft_normal (wa_ (wc_region (w_ (m_ (h := w_ (m_ (h := w_ (ca (hc := e_sizeN _ _ (by simp; omega)) (h := w_ (b_ (h := w_ (b_ (h := ?_)))))))))))))))))))
  refine w_ (ca (hc := e_in _ _ _) (h := w_ (a_ (h := wo_nil (e_ (h := aft_normal (wc_ret (?_))))))))
  all_goals (refine fin_ (hr := (res_tmp rfl res_nil)) (h := ?_); (focus (simp [isPl, h1, h2])))
theorem e_l7Place (pl : List Nd) (a : Int) (hp : pl.length < 2000000) : oc.call 98 [.lst false 0 (nds false 0 pl), .int .i64 a] = some (.bool (isPl pl a), []) := by
  refine fun_s rfl cd98 rfl rfl rfl (by simp; rfl) (by simp; rfl) ?_
  have h1 : IntKind.i64.wrap (2 * (pl.length : Int)) = 2 * pl.length := wrap_id (by omega) (by omega)
  have h2 : IntKind.i64.wrap (2 * (pl.length : Int) - 1) = 2 * pl.length - 1 := wrap_id (by omega) (by omega)
  refine wa_ (wc_region (w_ (a_ (h := wo_nil (e_ (h := aft_normal (wa_ (wc_region (w_ (m_ (h := w_ (m_ (h := w_ (le (h := w_ (b_ (h := w_ (b_ (h := ?_)))))))))))))))))))
  refine w_ (ca (hc := e_l1In _ _ _) (h := w_ (a_ (h := wo_nil (e_ (h := aft_normal (wc_ret (?_))))))))
  all_goals (refine fin_ (hr := (res_tmp rfl res_nil)) (h := ?_); (focus (simp [isPl, h1, h2])))
def idxF (v : Int) (i : Nat) : List Int → Int
  | [] => -1
  | x :: r => if v = x then i else idxF v (i + 1) r
theorem idxF_neg {v : Int} : ∀ {l : List Int} {i : Nat}, 0 ≤ idxF v i l ↔ v ∈ l
  | [], i => by simp [idxF]
  | x :: r, i => by
    unfold idxF
    by_cases h : v = x
    · simp [h]
    · simp [h, idxF_neg (l := r) (i := i + 1)]
theorem l_index (l : List Int) (v : Int) (hl : l.length < 2000000) : ∀ i : Nat, i ≤ l.length → ∀ s, normE 2 (some [0, 1, 7, 8]) s = ⟨[(0, .lst false 0 (ints l)), (1, .int .i64 v), (7, .int .i64 l.length), (8, .int .i64 i)], [], 2⟩ →
    oc.loop 205 2 s = some (if 0 ≤ idxF v i (l.drop i) then (.ret, ⟨[(4, .int .i64 (idxF v i (l.drop i)))], [], 2⟩) else (.exit 0, ⟨[], [], 2⟩)) := by
  refine loop_ind (fun i => l.length - i) _ (fun i => ⟨[(0, .lst false 0 (ints l)), (1, .int .i64 v), (7, .int .i64 l.length), (8, .int .i64 i)], [], 2⟩) _ ?_
  intro i hi ih s hs
  refine loop_s cd205 rfl rfl hs ?_
  refine wa_ (wc_region (w_ (b_ (h := wo_nil (e_ (h := aft_normal (wa_ (?_))))))))
  refine c_ (h1 := ?_) (h2 := ?_)
  rotate_right 1
  focus
   intro c1
   first
   | exact dn c1
   | (have d1 := c1; try simp at d1
      refine wc_exit (?_)
      )
  rotate_right 1
  focus
   intro c1
   first
   | exact dn c1
   | (have d1 := c1; try simp at d1
      have hw := wrap_succ (i := i) (by omega); obtain ⟨x, hx, e1, g1⟩ := ints_cut (l := l) (i := i) (by omega)
      refine wc_skip (?_)
      )
  all_goals first
  | refine aft_exit ?_
  | (refine aft_normal ?_
     refine wa_ (wc_block (wa_ (wc_region (w_ (m_ (h := w_ (a_ (h := wo_nil (e_ (h := aft_normal (wa_ (wc_region (w_ (m_ (h := w_ (m_ (h := ?_)))))))))))))))))
     refine w_ (m_ (h := w_ (x_ (h := w_ (l_ (h := w_ (bE (h := wo_nil (e_ (h := aft_normal (?_)))))))))))
     refine c_ (h1 := ?_) (h2 := ?_)
     rotate_right 1
     focus
      intro c2
      first
      | exact dn c2
      | (have d2 := c2; try simp at d2
         refine wc_skip (?_)
         )
     rotate_right 1
     focus
      intro c2
      first
      | exact dn c2
      | (have d2 := c2; try simp at d2
         refine wa_ (wc_region (w_ (m_ (h := w_ (a_ (h := wo_nil (e_ (h := aft_normal (wc_ret (?_))))))))))
         )
     all_goals first | refine blk_normal ?_ | refine blk_ret ?_
     all_goals first
     | refine aft_ret ?_
     | (refine aft_normal ?_
        refine wc_region (w_ (b_ (h := w_ (m_ (h := wo_nil (e_ (h := ?_)))))))
        )
     )
  all_goals first
  | (refine (ih (i + 1) (by omega) ?_ _ ?_).trans ?_; (focus (first | omega | (simp; done) | (simp; omega))); (focus (simp [normE, hw]; done)); (focus (rw [e1]; simp only [idxF, if_neg d2])))
  | (apply end_leaf (ex := Ext.ret) 2 (some [4]); (focus (simp [normE]; rfl)); (focus (rw [e1]; simp [idxF, d2])))
  | (apply end_leaf (ex := (Ext.exit 0)) 2 (some [4]); (focus (simp [normE]; rfl)); (focus (rw [List.drop_eq_nil_of_le (by omega)]; simp [idxF])))
theorem e_index (l : List Int) (v : Int) (hl : l.length < 2000000) : oc.call 205 [.lst false 0 (ints l), .int .i64 v] = some (.int .i64 (if 0 ≤ idxF v 0 l then idxF v 0 l else -1), []) := by
  refine fun_s rfl cd205 rfl rfl rfl (by simp; rfl) (by simp; rfl) ?_
  refine wa_ (wc_region (w_ (a_ (h := wo_nil (e_ (h := aft_normal (wa_ (wa_ (wc_region (w_ (m_ (h := w_ (le (h := w_ (m_ (h := wo_nil (e_ (h := ?_))))))))))))))))))
  refine aft_normal (wc_block (?_))
  refine wc_loopI (l_index l v hl 0 (by omega) _ (by simp [normE])) ?_ ?_
  rotate_right 1
  focus
   intro c1
   skip
  rotate_right 1
  focus
   intro c1
   skip
  all_goals first | refine blk_ret ?_ | refine blk_exit ?_
  all_goals first
  | refine aft_ret ?_
  | (refine aft_normal ?_
     refine wa_ (wc_region (w_ (a_ (h := wo_nil (e_ (h := aft_normal (wc_ret (?_))))))))
     )
  all_goals (refine fin_ (hr := (res_tmp rfl res_nil)) (h := ?_); (focus (first | (simp_all; done) | (simp_all <;> omega) | (simp_all <;> split <;> simp_all <;> omega))))
theorem e_contains (l : List Int) (v : Int) (hl : l.length < 2000000) : oc.call 192 [.lst false 0 (ints l), .int .i64 v] = some (.bool (l.contains v), []) := by
  refine fun_s rfl cd192 rfl rfl rfl (by simp; rfl) (by simp; rfl) ?_
  refine wa_ (wc_region (w_ (a_ (h := wo_nil (e_ (h := aft_normal (wa_ (wc_region (w_ (m_ (h := w_ (m_ (h := w_ (ca (hc := e_index _ _ hl) (h := w_ (b_ (h := w_ (a_ (h := ?_)))))))))))))))))))
  refine wo_nil (e_ (h := aft_normal (wc_ret (?_))))
  all_goals (refine fin_ (hr := (res_tmp rfl res_nil)) (h := ?_); (focus (simp; have := idxF_neg (v := v) (l := l) (i := 0); grind)))
end Go.Proofs.Ytmednhpmcplplaa.Ev
namespace Go.Proofs.Ytmednhpmcplplaa.Ev
open Go
set_option maxRecDepth 100000
set_option linter.unusedSimpArgs false
set_option linter.unusedVariables false
set_option maxHeartbeats 2000000
theorem l_readersI (pl : List Nd) (a : Int) (hp : pl.length < 2000000) (hk : okN pl) : ∀ x : Nat × List Int, (x.1 ≤ pl.length ∧ x.2.length ≤ x.1) → ∀ s, normE 2 (some [1, 5, 9, 10, 11]) s = ⟨[(1, .int .i64 a), (5, .ref 2 0 x.2.length), (9, .lst false 0 (nds false 0 pl)), (10, .int .i64 pl.length), (11, .int .i64 x.1)], [(2, ⟨false, false, 1, ints x.2, 0⟩)], 3⟩ →
    oc.loop 152 3 s = some (.exit 0, ⟨[(5, .ref 2 0 (x.2 ++ rdFrom a x.1 (pl.drop x.1)).length)], [(2, ⟨false, false, 1, ints (x.2 ++ rdFrom a x.1 (pl.drop x.1)), 0⟩)], 3⟩) := by
  refine loop_ind (σ := Nat × List Int) (fun x => pl.length - x.1) _ (fun x => ⟨[(1, .int .i64 a), (5, .ref 2 0 x.2.length), (9, .lst false 0 (nds false 0 pl)), (10, .int .i64 pl.length), (11, .int .i64 x.1)], [(2, ⟨false, false, 1, ints x.2, 0⟩)], 3⟩) _ ?_
  rintro ⟨i, out⟩ ⟨hi, ho⟩ ih s hs
  simp only at hi ho
  refine loop_s cd152 rfl rfl hs ?_
  refine wa_ (wc_region (w_ (b_ (h := wo_nil (e_ (h := aft_normal (wa_ (?_))))))))
  refine c_ (h1 := ?_) (h2 := ?_)
  rotate_right 1
  focus
   intro c1
   first
   | exact dn c1
   | (have d1 := c1; try simp at d1
      refine wc_exit (?_)
      )
  rotate_right 1
  focus
   intro c1
   first
   | exact dn c1
   | (have d1 := c1; try simp at d1
      have hw := wrap_succ (i := i) (by omega); obtain ⟨d, hx, e1, g1⟩ := nds_cut (t := false) (s := 0) (l := pl) (i := i) (by omega); have hd := hk d (List.mem_of_getElem? hx); have hle : (readsN d).length < 2000000 := (by have : (readsN d).length ≤ 2 := (by unfold readsN; split; simp; split <;> simp); omega)
      refine wc_skip (?_)
      )
  all_goals first
  | refine aft_exit ?_
  | (refine aft_normal ?_
     refine wa_ (wc_block (wa_ (wc_region (w_ (m_ (h := w_ (x_ (h := w_ (l_ (h := w_ (al (h := w_ (a_ (h := w0 (s_ (h := wo_nil (e_ (h := aft_normal (?_)))))))))))))))))))
     refine wa_ (wc_region (w_ (l_ (h := w_ (ca (hc := e_reads 0 d) (h := w_ (m_ (h := w_ (ca (hc := e_contains (readsN d) a hle) (h := wo_nil (e_ (h := aft_normal (?_)))))))))))))
     refine c_ (h1 := ?_) (h2 := ?_)
     rotate_right 1
     focus
      intro c2
      first
      | exact dn c2
      | (have d2 := c2; try simp at d2
         refine wc_skip (?_)
         )
     rotate_right 1
     focus
      intro c2
      first
      | exact dn c2
      | (have d2 := c2; try simp at d2
         refine wc_region (w_ (m_ (h := w_ (m_ (h := w_ (bs (h := w_ (ap (h := w_ (a_ (h := wo_nil (e_ (h := ?_)))))))))))))
         )
     all_goals refine blk_normal ?_
     all_goals first
     | (refine aft_normal ?_
        refine wc_region (w_ (b_ (h := w_ (m_ (h := wo_nil (e_ (h := ?_)))))))
        )
     )
  all_goals first
  | (refine (ih ((i + 1, out ++ [(i : Int)])) (⟨by simp; omega, by simp; omega⟩) ?_ _ ?_).trans ?_; (focus (first | omega | (simp; done) | (simp; omega))); (focus (simp [normE, hw]; done)); (focus (have d3 : readsFrom d a = true := (by simpa [readsFrom] using d2); simp only [e1, rdFrom, d3, if_true]; simp)))
  | (refine (ih ((i + 1, out)) (⟨by simp; omega, by simp; omega⟩) ?_ _ ?_).trans ?_; (focus (first | omega | (simp; done) | (simp; omega))); (focus (simp [normE, hw]; done)); (focus (have d3 : readsFrom d a = false := (by simpa [readsFrom] using d2); simp only [e1, rdFrom, d3]; simp)))
  | (apply end_leaf (ex := (Ext.exit 0)) 2 (some [5]); (focus (simp [normE]; rfl)); (focus (simp only [List.drop_eq_nil_of_le (show pl.length ≤ i by omega), rdFrom]; simp)))
theorem e_readersI (pl : List Nd) (a : Int) (hp : pl.length < 2000000) (hk : okN pl) : oc.call 152 [.lst false 0 (nds false 0 pl), .int .i64 a] = some (.lst true 1 (ints (rdFrom a 0 pl)), []) := by
  refine fun_s rfl cd152 rfl rfl rfl (by simp; rfl) (by simp; rfl) ?_
  refine wa_ (wc_region (w_ (aN (h := wo_nil (e_ (h := aft_normal (wa_ (wc_region (w_ (bs (h := w_ (a_ (h := wo_nil (e_ (h := aft_normal (wa_ (?_)))))))))))))))))
  refine wa_ (wc_region (w_ (m_ (h := w_ (le (h := w_ (m_ (h := wo_nil (e_ (h := aft_normal (wc_block (?_))))))))))))
  refine wc_loop (l_readersI pl a hp hk (0, []) (by simp) _ (by simp [normE])) ?_
  refine blk_exit (aft_normal (wa_ (wc_region (w_ (m_ (h := w_ (a_ (h := wo_nil (e_ (h := aft_normal (wc_ret (?_))))))))))))
  all_goals (refine fin_ (hr := (res_tmp rfl res_nil)) (h := ?_); (focus (first | (simp_all; done) | (simp_all <;> omega) | (simp_all <;> split <;> simp_all <;> omega))))
end Go.Proofs.Ytmednhpmcplplaa.Ev
namespace Go.Proofs.Ytmednhpmcplplaa.Ev
open Go
set_option maxRecDepth 100000
set_option linter.unusedSimpArgs false
set_option linter.unusedVariables false
set_option maxHeartbeats 2000000
def idxP (p : Int → Bool) (i : Nat) : List Int → Int
  | [] => -1
  | x :: r => if p x = true then i else idxP p (i + 1) r
theorem idxP_any {p : Int → Bool} : ∀ {l : List Int} {i : Nat}, decide (0 ≤ idxP p i l) = l.any p
  | [], i => by simp [idxP]
  | x :: r, i => by
    unfold idxP
    by_cases h : p x = true
    · simp [h]
    · simp only [if_neg h, List.any_cons, idxP_any (l := r) (i := i + 1)]; simp [h]
theorem l_indexP (l : List Int) (pl : List Nd) (to : Int) (p : Int → Bool) (hl : l.length < 2000000) (hc : ∀ x ∈ l, oc.call 153 [.int .i64 x, .vptr (.lst false 0 (nds false 0 pl)), .vptr (.int .i64 to)] = some (.bool (p x), [])) : ∀ i : Nat, i ≤ l.length → ∀ s, normE 2 (some [0, 1, 7, 8]) s = ⟨[(0, .lst false 0 (ints l)), (1, .clo 153 [.vptr (.lst false 0 (nds false 0 pl)), .vptr (.int .i64 to)]), (7, .int .i64 l.length), (8, .int .i64 i)], [], 2⟩ →
    oc.loop 191 2 s = some (if 0 ≤ idxP p i (l.drop i) then (.ret, ⟨[(4, .int .i64 (idxP p i (l.drop i)))], [], 2⟩) else (.exit 0, ⟨[], [], 2⟩)) := by
  refine loop_ind (fun i => l.length - i) _ (fun i => ⟨[(0, .lst false 0 (ints l)), (1, .clo 153 [.vptr (.lst false 0 (nds false 0 pl)), .vptr (.int .i64 to)]), (7, .int .i64 l.length), (8, .int .i64 i)], [], 2⟩) _ ?_
  intro i hi ih s hs
  refine loop_s cd191 rfl rfl hs ?_
  refine wa_ (wc_region (w_ (b_ (h := wo_nil (e_ (h := aft_normal (wa_ (?_))))))))
  refine c_ (h1 := ?_) (h2 := ?_)
  rotate_right 1
  focus
   intro c1
   first
   | exact dn c1
   | (have d1 := c1; try simp at d1
      refine wc_exit (?_)
      )
  rotate_right 1
  focus
   intro c1
   first
   | exact dn c1
   | (have d1 := c1; try simp at d1
      have hw := wrap_succ (i := i) (by omega); obtain ⟨x, hx, e1, g1⟩ := ints_cut (l := l) (i := i) (by omega); have hq := hc x (List.mem_of_getElem? hx)
      refine wc_skip (?_)
      )
  all_goals first
  | refine aft_exit ?_
  | (refine aft_normal ?_
     refine wa_ (wc_block (wa_ (wc_region (w_ (m_ (h := w_ (a_ (h := wo_nil (e_ (h := aft_normal (wa_ (wc_region (w_ (m_ (h := w_ (m_ (h := ?_)))))))))))))))))
     refine w_ (m_ (h := w_ (x_ (h := w_ (l_ (h := w_ (?_)))))))
     refine k_callS rfl rfl (by rw [cf_in]; rfl) rfl (by rw [cf_md]; rfl) (by simp [cf_md, mdT]; rfl) (by first | rfl | simp [*]) hq rfl (by simp; rfl) (by simp [cf_md, mdT]) (by simp; rfl) (by simp; rfl) ?_
     refine wo_nil (e_ (h := aft_normal (?_)))
     refine c_ (h1 := ?_) (h2 := ?_)
     rotate_right 1
     focus
      intro c2
      first
      | exact dn c2
      | (have d2 := c2; try simp at d2
         refine wc_skip (?_)
         )
     rotate_right 1
     focus
      intro c2
      first
      | exact dn c2
      | (have d2 := c2; try simp at d2
         refine wa_ (wc_region (w_ (m_ (h := w_ (a_ (h := wo_nil (e_ (h := aft_normal (wc_ret (?_))))))))))
         )
     all_goals first | refine blk_normal ?_ | refine blk_ret ?_
     all_goals first
     | refine aft_ret ?_
     | (refine aft_normal ?_
        refine wc_region (w_ (b_ (h := w_ (m_ (h := wo_nil (e_ (h := ?_)))))))
        )
     )
  all_goals first
  | (refine (ih (i + 1) (by omega) ?_ _ ?_).trans ?_; (focus (first | omega | (simp; done) | (simp; omega))); (focus (simp [normE, hw]; done)); (focus (rw [e1]; simp only [idxP, if_neg (show ¬ p x = true by simp [d2])])))
  | (apply end_leaf (ex := Ext.ret) 2 (some [4]); (focus (simp [normE]; rfl)); (focus (rw [e1]; simp [idxP, d2])))
  | (apply end_leaf (ex := (Ext.exit 0)) 2 (some [4]); (focus (simp [normE]; rfl)); (focus (rw [List.drop_eq_nil_of_le (by omega)]; simp [idxP])))
theorem e_indexP (l : List Int) (pl : List Nd) (to : Int) (p : Int → Bool) (hl : l.length < 2000000) (hc : ∀ x ∈ l, oc.call 153 [.int .i64 x, .vptr (.lst false 0 (nds false 0 pl)), .vptr (.int .i64 to)] = some (.bool (p x), [])) : oc.call 191 [.lst false 0 (ints l), .clo 153 [.vptr (.lst false 0 (nds false 0 pl)), .vptr (.int .i64 to)]] = some (.int .i64 (if 0 ≤ idxP p 0 l then idxP p 0 l else -1), []) := by
  refine fun_s rfl cd191 rfl rfl rfl (by simp; rfl) (by simp; rfl) ?_
  refine wa_ (wc_region (w_ (a_ (h := wo_nil (e_ (h := aft_normal (wa_ (wa_ (wc_region (w_ (m_ (h := w_ (le (h := w_ (m_ (h := wo_nil (e_ (h := ?_))))))))))))))))))
  refine aft_normal (wc_block (?_))
  refine wc_loopI (l_indexP l pl to p hl hc 0 (by omega) _ (by simp [normE])) ?_ ?_
  rotate_right 1
  focus
   intro c1
   skip
  rotate_right 1
  focus
   intro c1
   skip
  all_goals first | refine blk_ret ?_ | refine blk_exit ?_
  all_goals first
  | refine aft_ret ?_
  | (refine aft_normal ?_
     refine wa_ (wc_region (w_ (a_ (h := wo_nil (e_ (h := aft_normal (wc_ret (?_))))))))
     )
  all_goals (refine fin_ (hr := (res_tmp rfl res_nil)) (h := ?_); (focus (clear hc; first | (simp_all; done) | (simp_all <;> omega))))
theorem e_anyP (l : List Int) (pl : List Nd) (to : Int) (p : Int → Bool) (hl : l.length < 2000000) (hc : ∀ x ∈ l, oc.call 153 [.int .i64 x, .vptr (.lst false 0 (nds false 0 pl)), .vptr (.int .i64 to)] = some (.bool (p x), [])) : oc.call 151 [.lst false 0 (ints l), .clo 153 [.vptr (.lst false 0 (nds false 0 pl)), .vptr (.int .i64 to)]] = some (.bool (l.any p), []) := by
  refine fun_s rfl cd151 rfl rfl rfl (by simp; rfl) (by simp; rfl) ?_
  refine wa_ (wc_region (w_ (a_ (h := wo_nil (e_ (h := aft_normal (wa_ (wc_region (w_ (m_ (h := w_ (m_ (h := w_ (ca (hc := e_indexP l pl to p hl hc) (h := w_ (b_ (h := w_ (a_ (h := ?_)))))))))))))))))))
  refine wo_nil (e_ (h := aft_normal (wc_ret (?_))))
  all_goals (refine fin_ (hr := (res_tmp rfl res_nil)) (h := ?_); (focus (clear hc; rw [← idxP_any (i := 0)]; simp; grind)))
end Go.Proofs.Ytmednhpmcplplaa.Ev
namespace Go.Proofs.Ytmednhpmcplplaa.Ev
open Go
set_option maxRecDepth 100000
set_option linter.unusedSimpArgs false
set_option linter.unusedVariables false
set_option maxHeartbeats 2000000
def Wf (pl : List Nd) : Prop := ∀ (n : Nat) d, pl[n]? = some d → fitN d n
theorem lookR_wf {pl : List Nd} (hp : pl.length < 2000000) : ∀ (r : List Nd) (ws : List Int), r = pl.drop ws.length → (lookR pl r ws).2 = 0 → ∀ (n : Nat) d, ws.length ≤ n → pl[n]? = some d → fitN d n
  | [], ws, e, _, n, d, hn, hd => by
    have : pl.length ≤ ws.length := by
      have := congrArg List.length e; simp at this; omega
    have := (List.getElem?_eq_some_iff.mp hd).1
    omega
  | x :: r, ws, e, h, n, d, hn, hd => by
    unfold lookR at h
    have hx : pl[ws.length]? = some x := by
      have := congrArg (fun l => l[0]?) e
      simpa using this.symm
    have hr : r = pl.drop (ws.length + 1) := by
      have := congrArg List.tail e
      simpa [List.tail_drop] using this
    split at h
    · rename_i hs
      by_cases hc : n = ws.length
      · subst hc
        rw [hx] at hd
        cases hd
        exact step_ok (by have := (List.getElem?_eq_some_iff.mp hx).1; omega) hs
      · exact lookR_wf hp r (ws ++ [widthN x ws]) (by simpa using hr) h n d (by simp; omega) hd
    · exact absurd h ‹_›
theorem look_wf {pl : List Nd} (h : (lookN pl).2 = 0) : Wf pl := by
  unfold lookN at h
  split at h
  · cases h
  · rename_i hl
    simp [inI] at hl
    split at h
    · exact fun n d hd => lookR_wf (by omega) pl [] rfl h n d (by simp) hd
    · exact absurd h ‹_›
theorem rd_mem {a m : Int} : ∀ {l : List Nd} {i : Nat}, m ∈ rdFrom a i l → ∃ (k : Nat) (d : Nd), m = ((i + k : Nat) : Int) ∧ l[k]? = some d ∧ readsFrom d a = true
  | [], i, h => by simp [rdFrom] at h
  | d :: r, i, h => by
    unfold rdFrom at h
    split at h
    · rename_i hd
      rcases List.mem_cons.mp h with h | h
      · exact ⟨0, d, by simpa using h, rfl, hd⟩
      · obtain ⟨k, e, h1, h2, h3⟩ := rd_mem h
        exact ⟨k + 1, e, by rw [h1]; congr 1; omega, by simpa using h2, h3⟩
    · obtain ⟨k, e, h1, h2, h3⟩ := rd_mem h
      exact ⟨k + 1, e, by rw [h1]; congr 1; omega, by simpa using h2, h3⟩
theorem reads_fit {d : Nd} {n : Nat} {a : Int} (h : fitN d n) (hr : readsFrom d a = true) : 0 ≤ a ∧ a < n := by
  obtain ⟨h1, h2⟩ := h
  unfold readsFrom readsN at hr
  split at hr
  · simp at hr
  · split at hr
    · simp at hr
      rcases hr with rfl | rfl
      · exact h1 ‹_›
      · exact h2 ‹_›
    · simp at hr
      subst hr
      exact h1 ‹_›
theorem rd_gt {pl : List Nd} (W : Wf pl) {a m : Int} (h : m ∈ rdFrom a 0 pl) : 0 ≤ a ∧ a < m ∧ m < pl.length := by
  obtain ⟨k, d, rfl, h2, h3⟩ := rd_mem h
  have := reads_fit (W k d h2) h3
  have := (List.getElem?_eq_some_iff.mp h2).1
  simp only [Nat.zero_add]
  omega
theorem rd_len (a : Int) : ∀ (l : List Nd) (i : Nat), (rdFrom a i l).length ≤ l.length
  | [], i => by simp [rdFrom]
  | d :: r, i => by
    unfold rdFrom
    have := rd_len a r (i + 1)
    split <;> simp <;> omega
def leadsF (pl : List Nd) (to : Int) : Nat → Int → Bool
  | 0, _ => false
  | n + 1, a => if a = to then true else if a.tmod 2 = 0 then leadsF pl to n (a + 1) else (rdFrom (a / 2) 0 pl).any fun m => leadsF pl to n (2 * m)
theorem leads_low {pl : List Nd} (W : Wf pl) {to : Int} : ∀ (n : Nat) (b : Int), 0 ≤ b → to < b → leadsF pl to n b = false
  | 0, _, _, _ => rfl
  | n + 1, b, h0, h => by
    unfold leadsF
    rw [if_neg (by omega)]
    split
    · exact leads_low W n _ (by omega) (by omega)
    · rw [List.any_eq_false]
      intro m hm
      have := rd_gt W hm
      simp only [leads_low (to := to) W n (2 * m) (by omega) (by omega), Bool.false_eq_true, not_false_eq_true]
theorem e_leads (pl : List Nd) (to : Int) (hp : pl.length < 2000000) (hk : okN pl) (W : Wf pl) : ∀ (n : Nat) (a : Int), 0 ≤ a → a < 2 * pl.length → 2 * pl.length - a ≤ n → oc.call 95 [.lst false 0 (nds false 0 pl), .int .i64 a, .int .i64 to] = some (.bool (leadsF pl to n a), []) := by
  intro n
  induction n with
  | zero => intro a h0 h1 h2; omega
  | succ n ih =>
    intro a h0 h1 h2
    have ih' : ∀ b : Int, a < b → b < 2 * pl.length → oc.call 95 [.lst false 0 (nds false 0 pl), .int .i64 b, .int .i64 to] = some (.bool (leadsF pl to n b), []) := fun b h3 h4 => ih b (by omega) h4 (by omega)
    have hm : a.tmod 2 = a % 2 := Int.tmod_eq_emod_of_nonneg h0
    have hd : a.tdiv 2 = a / 2 := Int.tdiv_eq_ediv_of_nonneg h0
    have hw : IntKind.i64.wrap (a + 1) = a + 1 := wrap_id (by omega) (by omega)
    have hw2 : IntKind.i64.wrap (a / 2) = a / 2 := wrap_id (by omega) (by omega)
    have hclo : ∀ x ∈ rdFrom (a / 2) 0 pl, a % 2 ≠ 0 → oc.call 153 [.int .i64 x, .vptr (.lst false 0 (nds false 0 pl)), .vptr (.int .i64 to)] = some (.bool (leadsF pl to n (2 * x)), []) := by
      intro x hx ho
      have hg := rd_gt W hx
      have hw3 : IntKind.i64.wrap (2 * x) = 2 * x := wrap_id (by omega) (by omega)
      refine fun_s rfl cd153 rfl rfl rfl (by simp; rfl) (by simp; rfl) ?_
      refine wa_ (wc_region (w_ (a_ (h := wo_nil (e_ (h := aft_normal (wa_ (wc_region (w_ (l_ (h := w_ (m_ (h := w_ (b_ (h := w_ (l_ (h := w_ (ca (hc := (hw3.symm ▸ ih' (2 * x) (by omega) (by omega))) (h := ?_)))))))))))))))))))
      refine w_ (a_ (h := wo_nil (e_ (h := aft_normal (wc_ret (?_))))))
      all_goals (refine fin_ (hr := (res_tmp rfl res_nil)) (h := ?_); (focus (first | (simp_all; done) | (simp_all <;> omega) | (simp_all <;> split <;> simp_all <;> omega))))
    refine fun_s rfl cd95 rfl rfl rfl (by simp; rfl) (by simp; rfl) ?_
    refine wa_ (wc_region (w_ (bx (h := w_ (bx (h := w_ (a_ (h := wo_nil (e_ (h := aft_normal (wa_ (wa_ (wc_region (w_ (m_ (h := w_ (l_ (h := ?_))))))))))))))))))
    refine w_ (bE (h := wo_nil (e_ (h := aft_normal (?_)))))
    refine c_ (h1 := ?_) (h2 := ?_)
    rotate_right 1
    focus
     intro c1
     refine wc_skip (?_)
    rotate_right 1
    focus
     intro c1
     refine wa_ (wc_region (w_ (a_ (h := wo_nil (e_ (h := aft_normal (wc_ret (?_))))))))
    all_goals first
    | refine aft_ret ?_
    | (refine aft_normal ?_
       refine wa_ (wa_ (wc_region (w_ (m_ (h := w_ (b_ (h := w_ (bE (h := wo_nil (e_ (h := aft_normal (?_))))))))))))
       refine c_ (h1 := ?_) (h2 := ?_)
       rotate_right 1
       focus
        intro c2
        simp [hm] at c2
        refine wc_skip (?_)
       rotate_right 1
       focus
        intro c2
        simp [hm] at c2
        refine wa_ (wc_region (w_ (l_ (h := w_ (m_ (h := w_ (b_ (h := w_ (l_ (h := w_ (ca (hc := (hw.symm ▸ ih' (a + 1) (by omega) (by omega))) (h := w_ (a_ (h := wo_nil (e_ (h := aft_normal (wc_ret (?_))))))))))))))))))
       all_goals first
       | refine aft_ret ?_
       | (refine aft_normal ?_
          refine wa_ (wc_region (w_ (l_ (h := w_ (m_ (h := w_ (b_ (h := w_ (ca (hc := (by rw [hd, hw2]; exact e_readersI pl (a / 2) hp hk)) (h := w_ (mf (h := w_ (ca (hc := e_anyP (rdFrom (a / 2) 0 pl) pl to (fun m => leadsF pl to n (2 * m)) (by have := rd_len (a / 2) pl 0; omega) (fun x hx => hclo x hx (by omega))) (h := w_ (a_ (h := wo_nil (e_ (h := aft_normal (wc_ret (?_))))))))))))))))))))
          )
       )
    all_goals (refine fin_ (hr := (res_tmp rfl res_nil)) (h := ?_); (focus (clear ih ih' hclo hk W; first | (simp_all [leadsF]; done) | grind [leadsF])))
end Go.Proofs.Ytmednhpmcplplaa.Ev
namespace Go.Proofs.Ytmednhpmcplplaa.Ev
open Go
set_option maxRecDepth 100000
set_option linter.unusedSimpArgs false
set_option linter.unusedVariables false
set_option maxHeartbeats 2000000
theorem l_leadsS (pl : List Nd) (to : Int) (n : Nat) (rs : List Int) (hr : rs.length < 2000000) (hb : ∀ m ∈ rs, 0 ≤ m ∧ m < 2000000) (hrec : ∀ m ∈ rs, oc.call 99 [.lst false 0 (nds false 0 pl), .int .i64 (2 * m), .int .i64 to] = some (.bool (leadsF pl to n (2 * m)), [])) : ∀ i : Nat, (i ≤ rs.length) → ∀ s, normE 3 (some [0, 2, 7, 8]) s = ⟨[(0, .lst false 0 (nds false 0 pl)), (2, .int .i64 to), (7, .ref 3 0 rs.length), (8, .int .i64 i)], [(3, ⟨false, false, 1, ints rs, 0⟩)], 4⟩ →
    oc.loop 99 7 s = some (if (rs.drop i).any (fun m => decide (2 * m ≤ to) && leadsF pl to n (2 * m)) = true then (.ret, ⟨[(6, .bool true)], [], 3⟩) else (.exit 0, ⟨[], [], 3⟩)) := by
  refine loop_ind (σ := Nat) (fun i => rs.length - i) _ (fun i => ⟨[(0, .lst false 0 (nds false 0 pl)), (2, .int .i64 to), (7, .ref 3 0 rs.length), (8, .int .i64 i)], [(3, ⟨false, false, 1, ints rs, 0⟩)], 4⟩) _ ?_
  intro i hi ih s hs
  refine loop_s cd99 rfl rfl hs ?_
  refine wa_ (wa_ (wc_region (w_ (m_ (h := w_ (m_ (h := w_ (le (h := w_ (b_ (h := wo_nil (e_ (h := aft_normal (?_))))))))))))))
  refine c_ (h1 := ?_) (h2 := ?_)
  rotate_right 1
  focus
   intro c1
   first
   | exact dn c1
   | (have d1 := c1; try simp at d1
      refine wc_exit (?_)
      )
  rotate_right 1
  focus
   intro c1
   first
   | exact dn c1
   | (have d1 := c1; try simp at d1
      have hw := wrap_succ (i := i) (by omega); obtain ⟨x, hx, e1, g1⟩ := ints_cut (l := rs) (i := i) (by omega); simp at g1; have hm := List.mem_of_getElem? hx; obtain ⟨b1, b2⟩ := hb x hm; have hw3 : IntKind.i64.wrap (2 * x) = 2 * x := wrap_id (by omega) (by omega)
      refine wc_skip (?_)
      )
  all_goals first
  | refine aft_exit ?_
  | (refine aft_normal ?_
     refine wa_ (wc_block (wa_ (wc_region (w_ (m_ (h := w_ (m_ (h := w_ (x_ (h := w_ (l_ (h := w_ (b_ (h := w_ (m_ (h := w_ (b_ (h := w_ (m_ (h := ?_))))))))))))))))))))
     refine gw_ (h1 := ?_) (h2 := ?_)
     rotate_right 1
     focus
      intro c2
      first
      | exact dn c2
      | (have d2 := c2; try simp at d2
         refine go_ (h := go_ (h := go_ (h := go_ (h := go_ (h := go_ (h := go_ (h := go_ (h := ?_))))))))
         )
     rotate_right 1
     focus
      intro c2
      first
      | exact dn c2
      | (have d2 := c2; try simp at d2
         refine g_ (h := w_ (m_ (h := g_ (h := w_ (m_ (h := g_ (h := w_ (m_ (h := g_ (h := w_ (x_ (h := g_ (h := w_ (l_ (h := g_ (h := w_ (b_ (h := g_ (h := w_ (m_ (h := g_ (h := w_ (ca (hc := hw3.symm ▸ hrec x hm) (h := ?_))))))))))))))))))))))))
         )
     all_goals
      refine w_ (pk (h := wo_nil (e_ (h := ?_))))
     all_goals first
     | (refine aft_normal ?_
        refine c_ (h1 := ?_) (h2 := ?_)
        rotate_right 1
        focus
         intro c3
         first
         | exact dn c3
         | (have d3 := c3; try simp at d3
            refine wc_skip (?_)
            )
        rotate_right 1
        focus
         intro c3
         first
         | exact dn c3
         | (have d3 := c3; try simp at d3
            refine wa_ (wc_region (w_ (a_ (h := wo_nil (e_ (h := aft_normal (wc_ret (?_))))))))
            )
        )
     all_goals first | refine blk_normal ?_ | refine blk_ret ?_
     all_goals first
     | refine aft_ret ?_
     | (refine aft_normal ?_
        refine wc_region (w_ (m_ (h := w_ (b_ (h := w_ (a_ (h := wo_nil (e_ (h := ?_)))))))))
        )
     )
  all_goals first
  | (refine (ih (i + 1) (by omega) ?_ _ ?_).trans ?_; (focus (first | omega | (simp; done) | (simp; omega))); (focus (simp [normE, hw]; done)); (focus (rw [e1]; simp [hw3] at *; grind)))
  | (apply end_leaf (ex := Ext.ret) 3 (some [6]); (focus (simp [normE]; rfl)); (focus (rw [e1]; simp [hw3] at *; grind)))
  | (apply end_leaf (ex := (Ext.exit 0)) 3 (some [6]); (focus (simp [normE]; rfl)); (focus (rw [List.drop_eq_nil_of_le (by omega)]; simp)))
theorem any_low {pl : List Nd} (W : Wf pl) {to : Int} {n : Nat} : ∀ {rs : List Int}, (∀ m ∈ rs, 0 ≤ m) → rs.any (fun m => decide (2 * m ≤ to) && leadsF pl to n (2 * m)) = rs.any (fun m => leadsF pl to n (2 * m))
  | [], _ => rfl
  | x :: r, h => by
    simp only [List.any_cons]
    rw [any_low W (fun m hm => h m (List.mem_cons_of_mem _ hm))]
    by_cases hx : 2 * x ≤ to
    · simp [hx]
    · have h0 := h x (List.mem_cons_self ..)
      rw [leads_low (to := to) W n (2 * x) (by omega) (by omega)]
      simp
theorem e_leadsS (pl : List Nd) (to : Int) (hp : pl.length < 2000000) (hk : okN pl) (W : Wf pl) : ∀ (n : Nat) (a : Int), 0 ≤ a → a < 2 * pl.length → 2 * pl.length - a ≤ n → oc.call 99 [.lst false 0 (nds false 0 pl), .int .i64 a, .int .i64 to] = some (.bool (leadsF pl to n a), []) := by
  intro n
  induction n with
  | zero => intro a h0 h1 h2; omega
  | succ n ih =>
    intro a h0 h1 h2
    have ih' : ∀ b : Int, a < b → b < 2 * pl.length → oc.call 99 [.lst false 0 (nds false 0 pl), .int .i64 b, .int .i64 to] = some (.bool (leadsF pl to n b), []) := fun b h3 h4 => ih b (by omega) h4 (by omega)
    have hm : a.tmod 2 = a % 2 := Int.tmod_eq_emod_of_nonneg h0
    have hd : a.tdiv 2 = a / 2 := Int.tdiv_eq_ediv_of_nonneg h0
    have hw : IntKind.i64.wrap (a + 1) = a + 1 := wrap_id (by omega) (by omega)
    have hw2 : IntKind.i64.wrap (a / 2) = a / 2 := wrap_id (by omega) (by omega)
    have hl : (rdFrom (a / 2) 0 pl).length < 2000000 := by have := rd_len (a / 2) pl 0; omega
    have hal := any_low (to := to) W (n := n) (rs := rdFrom (a / 2) 0 pl) (fun m hm => by have := rd_gt W hm; omega)
    refine fun_s rfl cd99 rfl rfl rfl (by simp; rfl) (by simp; rfl) ?_
    refine wa_ (wc_region (w_ (a_ (h := wo_nil (e_ (h := aft_normal (wa_ (wa_ (wc_region (w_ (m_ (h := w_ (m_ (h := w_ (bE (h := wo_nil (e_ (h := ?_))))))))))))))))))
    refine aft_normal (?_)
    refine c_ (h1 := ?_) (h2 := ?_)
    rotate_right 1
    focus
     intro c1
     refine wc_skip (?_)
    rotate_right 1
    focus
     intro c1
     refine wa_ (wc_region (w_ (a_ (h := wo_nil (e_ (h := aft_normal (wc_ret (?_))))))))
    all_goals first
    | refine aft_ret ?_
    | (refine aft_normal ?_
       refine wa_ (wa_ (wc_region (w_ (m_ (h := w_ (b_ (h := w_ (bE (h := wo_nil (e_ (h := aft_normal (?_))))))))))))
       refine c_ (h1 := ?_) (h2 := ?_)
       rotate_right 1
       focus
        intro c2
        simp [hm] at c2
        refine wc_skip (?_)
       rotate_right 1
       focus
        intro c2
        simp [hm] at c2
        refine wa_ (wc_region (w_ (m_ (h := w_ (m_ (h := w_ (b_ (h := w_ (m_ (h := w_ (ca (hc := hw.symm ▸ ih' (a + 1) (by omega) (by omega)) (h := w_ (a_ (h := wo_nil (e_ (h := aft_normal (wc_ret (?_))))))))))))))))))
       all_goals first
       | refine aft_ret ?_
       | (refine aft_normal ?_
          refine wa_ (wc_region (w_ (m_ (h := w_ (m_ (h := w_ (b_ (h := w_ (ca (hc := (by rw [hd, hw2]; exact e_readersS pl (a / 2) hp hk)) (h := w_ (a_ (h := wo_nil (e_ (h := aft_normal (wa_ (wa_ (wc_region (?_))))))))))))))))))
          refine w_ (a_ (h := wo_nil (e_ (h := aft_normal (wc_block (?_))))))
          refine wc_loopI (l_leadsS pl to n (rdFrom (a / 2) 0 pl) hl (fun m hm => by have := rd_gt W hm; omega) (fun m hm => ih' (2 * m) (by have := rd_gt W hm; omega) (by have := rd_gt W hm; omega)) 0 (by omega) _ (by simp [normE])) ?_ ?_
          rotate_right 1
          focus
           intro c3
           skip
          rotate_right 1
          focus
           intro c3
           skip
          all_goals first | refine blk_ret ?_ | refine blk_exit ?_
          all_goals first
          | refine aft_ret ?_
          | (refine aft_normal ?_
             refine wa_ (wc_region (w_ (a_ (h := wo_nil (e_ (h := aft_normal (wc_ret (?_))))))))
             )
          )
       )
    all_goals (refine fin_ (hr := (res_tmp rfl res_nil)) (h := ?_); (focus (clear ih ih' hk W; simp only [List.drop_zero, hal] at *; first | (simp_all [leadsF]; done) | grind [leadsF])))
def leadsN (pl : List Nd) (a to : Int) : Bool := decide ((lookN pl).2 = 0) && (isPl pl a && (isPl pl to && leadsF pl to (2 * pl.length) a))
theorem e_leadsToI (pl : List Nd) (a to : Int) (hp : pl.length < 2000000) (hk : okN pl) : oc.call 32 [.lst false 0 (nds false 0 pl), .int .i64 a, .int .i64 to] = some (.bool (leadsN pl a to), []) := by
  refine fun_s rfl cd32 rfl rfl rfl (by simp; rfl) (by simp; rfl) ?_
  refine wa_ (wc_region (w_ (a_ (h := wo_nil (e_ (h := aft_normal (wa_ (wc_region (w_ (m_ (h := w_ (ca (hc := e_planI pl hp hk) (h := w_ (bE (h := w_ (m_ (h := ?_)))))))))))))))))
  refine gw_ (h1 := ?_) (h2 := ?_)
  rotate_right 1
  focus
   intro c1
   first
   | exact dn c1
   | (have d1 := c1; try simp at d1
      refine go_ (h := go_ (h := go_ (h := ?_)))
      )
  rotate_right 1
  focus
   intro c1
   first
   | exact dn c1
   | (have d1 := c1; try simp at d1
      refine g_ (h := w_ (m_ (h := g_ (h := w_ (m_ (h := g_ (h := w_ (ca (hc := e_isPlace pl _ hp) (h := ?_)))))))))
      )
  all_goals
   refine w_ (pk (h := w_ (m_ (h := ?_))))
   refine gw_ (h1 := ?_) (h2 := ?_)
   rotate_right 1
   focus
    intro c2
    first
    | exact dn c2
    | (have d2 := c2; try simp at d2
       refine go_ (h := go_ (h := go_ (h := ?_)))
       )
   rotate_right 1
   focus
    intro c2
    first
    | exact dn c2
    | (have d2 := c2; try simp at d2
       refine g_ (h := w_ (m_ (h := g_ (h := w_ (m_ (h := g_ (h := w_ (ca (hc := e_isPlace pl _ hp) (h := ?_)))))))))
       )
   all_goals
    refine w_ (pk (h := w_ (m_ (h := ?_))))
    refine gw_ (h1 := ?_) (h2 := ?_)
    rotate_right 1
    focus
     intro c3
     first
     | exact dn c3
     | (have d3 := c3; try simp at d3
        refine go_ (h := go_ (h := go_ (h := go_ (h := ?_))))
        )
    rotate_right 1
    focus
     intro c3
     first
     | exact dn c3
     | (have d3 := c3; try simp at d3
        simp [isPl, inI] at d2 d3
        refine g_ (h := w_ (m_ (h := g_ (h := w_ (m_ (h := g_ (h := w_ (m_ (h := g_ (h := w_ (ca (hc := e_leads pl to hp hk (look_wf d1) (2 * pl.length) a (by omega) (by omega) (by omega)) (h := ?_))))))))))))
        )
    all_goals
     refine w_ (pk (h := w_ (a_ (h := wo_nil (e_ (h := ?_))))))
  all_goals first
  | (refine aft_normal ?_
     refine wc_ret (?_)
     )
  all_goals (refine fin_ (hr := (res_tmp rfl res_nil)) (h := ?_); (focus (simp; grind [leadsN])))
theorem e_leadsToS (pl : List Nd) (a to : Int) (hp : pl.length < 2000000) (hk : okN pl) : oc.call 35 [.lst false 0 (nds false 0 pl), .int .i64 a, .int .i64 to] = some (.bool (leadsN pl a to), []) := by
  refine fun_s rfl cd35 rfl rfl rfl (by simp; rfl) (by simp; rfl) ?_
  refine wa_ (wc_region (w_ (a_ (h := wo_nil (e_ (h := aft_normal (wa_ (wc_region (w_ (m_ (h := w_ (ca (hc := e_planS pl hp hk) (h := w_ (bE (h := w_ (m_ (h := ?_)))))))))))))))))
  refine gw_ (h1 := ?_) (h2 := ?_)
  rotate_right 1
  focus
   intro c1
   first
   | exact dn c1
   | (have d1 := c1; try simp at d1
      refine go_ (h := go_ (h := go_ (h := ?_)))
      )
  rotate_right 1
  focus
   intro c1
   first
   | exact dn c1
   | (have d1 := c1; try simp at d1
      refine g_ (h := w_ (m_ (h := g_ (h := w_ (m_ (h := g_ (h := w_ (ca (hc := e_l7Place pl _ hp) (h := ?_)))))))))
      )
  all_goals
   refine w_ (pk (h := w_ (m_ (h := ?_))))
   refine gw_ (h1 := ?_) (h2 := ?_)
   rotate_right 1
   focus
    intro c2
    first
    | exact dn c2
    | (have d2 := c2; try simp at d2
       refine go_ (h := go_ (h := go_ (h := ?_)))
       )
   rotate_right 1
   focus
    intro c2
    first
    | exact dn c2
    | (have d2 := c2; try simp at d2
       refine g_ (h := w_ (m_ (h := g_ (h := w_ (m_ (h := g_ (h := w_ (ca (hc := e_l7Place pl _ hp) (h := ?_)))))))))
       )
   all_goals
    refine w_ (pk (h := w_ (m_ (h := ?_))))
    refine gw_ (h1 := ?_) (h2 := ?_)
    rotate_right 1
    focus
     intro c3
     first
     | exact dn c3
     | (have d3 := c3; try simp at d3
        refine go_ (h := go_ (h := go_ (h := go_ (h := ?_))))
        )
    rotate_right 1
    focus
     intro c3
     first
     | exact dn c3
     | (have d3 := c3; try simp at d3
        simp [isPl, inI] at d2 d3
        refine g_ (h := w_ (m_ (h := g_ (h := w_ (m_ (h := g_ (h := w_ (m_ (h := g_ (h := w_ (ca (hc := e_leadsS pl to hp hk (look_wf d1) (2 * pl.length) a (by omega) (by omega) (by omega)) (h := ?_))))))))))))
        )
    all_goals
     refine w_ (pk (h := w_ (a_ (h := wo_nil (e_ (h := ?_))))))
  all_goals first
  | (refine aft_normal ?_
     refine wc_ret (?_)
     )
  all_goals (refine fin_ (hr := (res_tmp rfl res_nil)) (h := ?_); (focus (simp; grind [leadsN])))
end Go.Proofs.Ytmednhpmcplplaa.Ev
namespace Go.Proofs.Ytmednhpmcplplaa.Ev
open Go
set_option maxRecDepth 100000
set_option linter.unusedSimpArgs false
set_option linter.unusedVariables false
set_option maxHeartbeats 2000000
def cmpI (a b : Int) : Int := if a < b then -1 else if b < a then 1 else 0
theorem e_nan (a : Int) : oc.call 203 [.int .i64 a] = some (.bool false, []) := by
  refine fun_s rfl cd203 rfl rfl rfl (by simp; rfl) (by simp; rfl) ?_
  refine wa_ (wc_region (w_ (a_ (h := wo_nil (e_ (h := aft_normal (wa_ (wc_region (w_ (m_ (h := w_ (m_ (h := w_ (bE (h := w_ (a_ (h := wo_nil (e_ (h := ?_)))))))))))))))))))
  refine aft_normal (wc_ret (?_))
  all_goals (refine fin_ (hr := (res_tmp rfl res_nil)) (h := ?_); (focus (first | (simp_all; done) | (simp_all <;> omega) | (simp_all <;> split <;> simp_all <;> omega))))
theorem e_cmp (a b : Int) : oc.call 186 [.int .i64 a, .int .i64 b] = some (.int .i64 (cmpI a b), []) := by
  refine fun_s rfl cd186 rfl rfl rfl (by simp; rfl) (by simp; rfl) ?_
  refine wa_ (wc_region (w_ (a_ (h := wo_nil (e_ (h := aft_normal (wa_ (wc_region (w_ (m_ (h := w_ (ca (hc := e_nan _) (h := w_ (a_ (h := wo_nil (e_ (h := aft_normal (?_))))))))))))))))))
  refine wa_ (wc_region (w_ (m_ (h := w_ (ca (hc := e_nan _) (h := w_ (a_ (h := wo_nil (e_ (h := aft_normal (wa_ (wa_ (wc_region (w_ (m_ (h := wo_nil (e_ (h := ?_))))))))))))))))))
  refine aft_normal (?_)
  refine c_ (h1 := ?_) (h2 := ?_)
  rotate_right 1
  focus
   intro c1
   first
   | exact dn c1
   | (have d1 := c1; try simp at d1
      refine wc_skip (?_)
      )
  rotate_right 1
  focus
   intro c1
   first
   | exact dn c1
   | (have d1 := c1; try simp at d1
      refine wa_ (wa_ (wc_region (w_ (m_ (h := wo_nil (e_ (h := aft_normal (?_))))))))
      refine c_ (h1 := ?_) (h2 := ?_)
      rotate_right 1
      focus
       intro c2
       first
       | exact dn c2
       | (have d2 := c2; try simp at d2
          refine wc_skip (?_)
          )
      rotate_right 1
      focus
       intro c2
       first
       | exact dn c2
       | (have d2 := c2; try simp at d2
          refine wa_ (wc_region (w_ (a_ (h := wo_nil (e_ (h := aft_normal (wc_ret (?_))))))))
          )
      all_goals first
      | refine aft_ret ?_
      | (refine aft_normal ?_
         refine wa_ (wc_region (w_ (a_ (h := wo_nil (e_ (h := aft_normal (wc_ret (?_))))))))
         )
      )
  all_goals first
  | refine aft_ret ?_
  | (refine aft_normal ?_
     refine wa_ (wa_ (wc_region (w_ (m_ (h := wo_nil (e_ (h := aft_normal (?_))))))))
     refine c_ (h1 := ?_) (h2 := ?_)
     rotate_right 1
     focus
      intro c3
      first
      | exact dn c3
      | (have d3 := c3; try simp at d3
         refine wc_skip (?_)
         )
     rotate_right 1
     focus
      intro c3
      first
      | exact dn c3
      | (have d3 := c3; try simp at d3
         refine wa_ (wc_region (w_ (a_ (h := wo_nil (e_ (h := aft_normal (wc_ret (?_))))))))
         )
     all_goals first
     | refine aft_ret ?_
     | (refine aft_normal ?_
        refine wa_ (wa_ (wc_region (w_ (m_ (h := w_ (m_ (h := w_ (b_ (h := wo_nil (e_ (h := aft_normal (?_))))))))))))
        refine c_ (h1 := ?_) (h2 := ?_)
        rotate_right 1
        focus
         intro c4
         first
         | exact dn c4
         | (have d4 := c4; try simp at d4
            refine wc_skip (?_)
            )
        rotate_right 1
        focus
         intro c4
         first
         | exact dn c4
         | (have d4 := c4; try simp at d4
            refine wa_ (wc_region (w_ (a_ (h := wo_nil (e_ (h := aft_normal (wc_ret (?_))))))))
            )
        all_goals first
        | refine aft_ret ?_
        | (refine aft_normal ?_
           refine wa_ (wa_ (wc_region (w_ (m_ (h := w_ (m_ (h := w_ (b_ (h := wo_nil (e_ (h := aft_normal (?_))))))))))))
           refine c_ (h1 := ?_) (h2 := ?_)
           rotate_right 1
           focus
            intro c5
            first
            | exact dn c5
            | (have d5 := c5; try simp at d5
               refine wc_skip (?_)
               )
           rotate_right 1
           focus
            intro c5
            first
            | exact dn c5
            | (have d5 := c5; try simp at d5
               refine wa_ (wc_region (w_ (a_ (h := wo_nil (e_ (h := aft_normal (wc_ret (?_))))))))
               )
           all_goals first
           | refine aft_ret ?_
           | (refine aft_normal ?_
              refine wa_ (wc_region (w_ (a_ (h := wo_nil (e_ (h := aft_normal (wc_ret (?_))))))))
              )
           )
        )
     )
  all_goals (refine fin_ (hr := (res_tmp rfl res_nil)) (h := ?_); (focus (simp [cmpI]; grind)))
theorem l_or (a b : Int) : ∀ i : Nat, (i ≤ 2) → ∀ s, normE 1 (some [3, 6, 7, 8]) s = ⟨[(3, .int .i64 0), (6, .lst false 0 (ints [a, b])), (7, .int .i64 2), (8, .int .i64 i)], [], 1⟩ →
    oc.loop 195 3 s = some (if ([a, b].drop i).all (fun x => decide (x = 0)) = true then (.exit 0, ⟨[(3, .int .i64 0)], [], 1⟩) else (.ret, ⟨[(2, .int .i64 (if i = 0 ∧ a ≠ 0 then a else b)), (3, .int .i64 0)], [], 1⟩)) := by
  refine loop_ind (σ := Nat) (fun i => 2 - i) _ (fun i => ⟨[(3, .int .i64 0), (6, .lst false 0 (ints [a, b])), (7, .int .i64 2), (8, .int .i64 i)], [], 1⟩) _ ?_
  intro i hi ih s hs
  refine loop_s cd195 rfl rfl hs ?_
  refine wa_ (wc_region (w_ (b_ (h := wo_nil (e_ (h := aft_normal (wa_ (?_))))))))
  refine c_ (h1 := ?_) (h2 := ?_)
  rotate_right 1
  focus
   intro c1
   first
   | exact dn c1
   | (have d1 := c1; try simp at d1
      have : i = 2 := (by omega); subst this
      refine wc_exit (?_)
      )
  rotate_right 1
  focus
   intro c1
   first
   | exact dn c1
   | (have d1 := c1; try simp at d1
      have hw := wrap_succ (i := i) (by omega); obtain ⟨x, hx, e1, g1⟩ := ints_cut (l := [a, b]) (i := i) (by simp; omega)
      refine wc_skip (?_)
      )
  all_goals first
  | refine aft_exit ?_
  | (refine aft_normal ?_
     refine wa_ (wc_block (wa_ (wc_region (w_ (x_ (h := w_ (l_ (h := w_ (a_ (h := wo_nil (e_ (h := aft_normal (wa_ (wc_region (w_ (m_ (h := ?_)))))))))))))))))
     refine w_ (m_ (h := w_ (bE (h := wo_nil (e_ (h := aft_normal (?_)))))))
     refine c_ (h1 := ?_) (h2 := ?_)
     rotate_right 1
     focus
      intro c2
      first
      | exact dn c2
      | (have d2 := c2; try simp at d2
         refine wc_skip (?_)
         )
     rotate_right 1
     focus
      intro c2
      first
      | exact dn c2
      | (have d2 := c2; try simp at d2
         refine wa_ (wc_region (w_ (m_ (h := w_ (a_ (h := wo_nil (e_ (h := aft_normal (wc_ret (?_))))))))))
         )
     all_goals first | refine blk_normal ?_ | refine blk_ret ?_
     all_goals first
     | refine aft_ret ?_
     | (refine aft_normal ?_
        refine wc_region (w_ (b_ (h := w_ (m_ (h := wo_nil (e_ (h := ?_)))))))
        )
     )
  all_goals first
  | (refine (ih (i + 1) (by omega) ?_ _ ?_).trans ?_; (focus (first | omega | (simp; done) | (simp; omega))); (focus (simp [normE, hw]; done)); (focus (rcases i with _ | _ | i <;> simp at * <;> grind)))
  | (apply end_leaf (ex := Ext.ret) 1 (some [2, 3]); (focus (simp [normE]; rfl)); (focus (rcases i with _ | _ | i <;> simp at * <;> grind)))
  | (apply end_leaf (ex := (Ext.exit 0)) 1 (some [2, 3]); (focus (simp [normE]; rfl)); (focus (simp)))
theorem e_or (a b : Int) : oc.call 195 [.lst false 0 (ints [a, b])] = some (.int .i64 (if a = 0 then b else a), []) := by
  refine fun_s rfl cd195 rfl rfl rfl (by simp; rfl) (by simp; rfl) ?_
  refine wa_ (wc_region (w_ (a_ (h := wo_nil (e_ (h := aft_normal (wa_ (wc_region (w_ (a_ (h := wo_nil (e_ (h := aft_normal (wa_ (wa_ (?_))))))))))))))))
  refine wc_region (w_ (m_ (h := w_ (le (h := w_ (m_ (h := wo_nil (e_ (h := aft_normal (wc_block (?_)))))))))))
  refine wc_loopI (l_or a b 0 (by omega) _ (by simp [normE])) ?_ ?_
  rotate_right 1
  focus
   intro c1
   skip
  rotate_right 1
  focus
   intro c1
   skip
  all_goals first | refine blk_ret ?_ | refine blk_exit ?_
  all_goals first
  | refine aft_ret ?_
  | (refine aft_normal ?_
     refine wa_ (wc_region (w_ (m_ (h := w_ (a_ (h := wo_nil (e_ (h := aft_normal (wc_ret (?_))))))))))
     )
  all_goals (refine fin_ (hr := (res_tmp rfl res_nil)) (h := ?_); (focus (simp at * <;> grind)))
def byC (a b : Ct) : Int := if cmpI a.pl b.pl = 0 then cmpI a.ep b.ep else cmpI a.pl b.pl
theorem e_byC (a b : Ct) : oc.call 161 [a.v, b.v] = some (.int .i64 (byC a b), []) := by
  refine fun_s rfl cd161 rfl rfl rfl (by simp; rfl) (by simp; rfl) ?_
  refine wa_ (wc_region (w_ (bx (h := w_ (bx (h := w_ (a_ (h := wo_nil (e_ (h := aft_normal (wa_ (wc_draw (y_ (f_ (h := ax_ (h := y_ (l_ (h := ax_ (h := y_ (f_ (h := ax_ (h := ?_))))))))))))))))))))))
  refine y_ (l_ (h := ax_ (h := y_ (ca (hc := e_cmp _ _) (h := ax_ (h := y_ (f_ (h := ax_ (h := y_ (l_ (h := ax_ (h := y_ (f_ (h := ax_ (h := y_ (l_ (h := ax_ (h := y_ (ca (hc := e_cmp _ _) (h := ax_ (h := y_ (bs (h := ax_ (h := y_ (ca (hc := e_or _ _) (h := ax_ (h := y_ (a_ (h := ax_ (h := wo_nil (ed (h := aft_normal (?_)))))))))))))))))))))))))))))))))
  refine wc_ret (?_)
  all_goals (refine fin_ (hr := (res_tmp rfl res_nil)) (h := ?_); (focus (simp [byC])))
def ahead (a b : Ct) : Bool := if a.pl = b.pl then decide (a.ep < b.ep) else decide (a.pl < b.pl)
theorem e_ahead (a b : Ct) : oc.call 103 [a.v, b.v] = some (.bool (ahead a b), []) := by
  refine fun_s rfl cd103 rfl rfl rfl (by simp; rfl) (by simp; rfl) ?_
  refine wa_ (wc_region (w_ (bx (h := w_ (bx (h := w_ (a_ (h := wo_nil (e_ (h := aft_normal (wa_ (wa_ (wc_region (w_ (f_ (h := w_ (l_ (h := ?_))))))))))))))))))
  refine w_ (f_ (h := w_ (l_ (h := w_ (bE (h := wo_nil (e_ (h := aft_normal (?_)))))))))
  refine c_ (h1 := ?_) (h2 := ?_)
  rotate_right 1
  focus
   intro c1
   refine wc_skip (?_)
  rotate_right 1
  focus
   intro c1
   refine wa_ (wc_region (w_ (f_ (h := w_ (l_ (h := w_ (f_ (h := w_ (l_ (h := w_ (b_ (h := w_ (a_ (h := wo_nil (e_ (h := aft_normal (wc_ret (?_))))))))))))))))))
  all_goals first
  | refine aft_ret ?_
  | (refine aft_normal ?_
     refine wa_ (wc_region (w_ (f_ (h := w_ (l_ (h := w_ (f_ (h := w_ (l_ (h := w_ (b_ (h := w_ (a_ (h := wo_nil (e_ (h := aft_normal (wc_ret (?_))))))))))))))))))
     )
  all_goals (refine fin_ (hr := (res_tmp rfl res_nil)) (h := ?_); (focus (simp [ahead] at * <;> grind)))
theorem byC_ahead (a b : Ct) : (0 ≤ byC a b) = (ahead a b = false) := by
  simp only [byC, cmpI, ahead]; grind
theorem ahead_f {a b : Ct} (h : 0 ≤ byC a b) : ahead a b = false := by rw [byC_ahead] at h; exact h
theorem ahead_t {a b : Ct} (h : byC a b < 0) : ahead a b = true := by
  cases h2 : ahead a b with
  | true => rfl
  | false => rw [← byC_ahead] at h2; omega
theorem byC_zero (a b : Ct) : (byC a b = 0) = (a.pl = b.pl ∧ a.ep = b.ep) := by
  simp only [byC, cmpI]; grind
def rightC (pl : List Nd) (c : Ct) : Bool := isPl pl c.pl && (inI c.ep 0 1000 && inI c.n (-1000000000000) 1000000000000)
theorem e_isCount (pl : List Nd) (c : Ct) (hp : pl.length < 2000000) : oc.call 160 [.lst false 0 (nds false 0 pl), c.v] = some (.bool (rightC pl c), []) := by
  refine fun_s rfl cd160 rfl rfl rfl (by simp; rfl) (by simp; rfl) ?_
  refine wa_ (wc_region (w_ (bx (h := w_ (a_ (h := wo_nil (e_ (h := aft_normal (wa_ (wc_region (w_ (m_ (h := w_ (f_ (h := w_ (l_ (h := w_ (ca (hc := e_isPlace pl _ hp) (h := ?_)))))))))))))))))))
  refine w_ (m_ (h := ?_))
  refine gw_ (h1 := ?_) (h2 := ?_)
  rotate_right 1
  focus
   intro c1
   refine go_ (h := go_ (h := go_ (h := ?_)))
  rotate_right 1
  focus
   intro c1
   refine g_ (h := w_ (f_ (h := g_ (h := w_ (l_ (h := g_ (h := w_ (ca (hc := e_in _ _ _) (h := ?_)))))))))
  all_goals
   refine w_ (pk (h := w_ (m_ (h := ?_))))
   refine gw_ (h1 := ?_) (h2 := ?_)
   rotate_right 1
   focus
    intro c2
    refine go_ (h := go_ (h := go_ (h := ?_)))
   rotate_right 1
   focus
    intro c2
    refine g_ (h := w_ (f_ (h := g_ (h := w_ (l_ (h := g_ (h := w_ (ca (hc := e_isWeight _) (h := ?_)))))))))
   all_goals
    refine w_ (pk (h := w_ (a_ (h := wo_nil (e_ (h := ?_))))))
  all_goals first
  | (refine aft_normal ?_
     refine wc_ret (?_)
     )
  all_goals (refine fin_ (hr := (res_tmp rfl res_nil)) (h := ?_); (focus (simp [rightC] at * <;> grind)))
theorem e_l7Right (pl : List Nd) (c : Ct) (hp : pl.length < 2000000) : oc.call 102 [.lst false 0 (nds false 0 pl), c.v] = some (.bool (rightC pl c), []) := by
  refine fun_s rfl cd102 rfl rfl rfl (by simp; rfl) (by simp; rfl) ?_
  refine wa_ (wc_region (w_ (bx (h := w_ (a_ (h := wo_nil (e_ (h := aft_normal (wa_ (wc_region (w_ (m_ (h := w_ (f_ (h := w_ (l_ (h := w_ (ca (hc := e_l7Place pl _ hp) (h := ?_)))))))))))))))))))
  refine w_ (m_ (h := ?_))
  refine gw_ (h1 := ?_) (h2 := ?_)
  rotate_right 1
  focus
   intro c1
   refine go_ (h := go_ (h := go_ (h := ?_)))
  rotate_right 1
  focus
   intro c1
   refine g_ (h := w_ (f_ (h := g_ (h := w_ (l_ (h := g_ (h := w_ (ca (hc := e_l1In _ _ _) (h := ?_)))))))))
  all_goals
   refine w_ (pk (h := w_ (m_ (h := ?_))))
   refine gw_ (h1 := ?_) (h2 := ?_)
   rotate_right 1
   focus
    intro c2
    refine go_ (h := go_ (h := go_ (h := ?_)))
   rotate_right 1
   focus
    intro c2
    refine g_ (h := w_ (f_ (h := g_ (h := w_ (l_ (h := g_ (h := w_ (ca (hc := e_l1Weight _) (h := ?_)))))))))
   all_goals
    refine w_ (pk (h := w_ (a_ (h := wo_nil (e_ (h := ?_))))))
  all_goals first
  | (refine aft_normal ?_
     refine wc_ret (?_)
     )
  all_goals (refine fin_ (hr := (res_tmp rfl res_nil)) (h := ?_); (focus (simp [rightC] at * <;> grind)))
def ctsR (pl : List Nd) : Option Ct → List Ct → Int
  | _, [] => 0
  | p, c :: r => if rightC pl c = false ∨ c.n = 0 then 3 else if (p.elim false fun q => !ahead q c) = true then 1 else ctsR pl (some c) r
def prevAt (l : List Ct) (i : Nat) : Option Ct := if i = 0 then none else l[i - 1]?
theorem prevAt_succ {l : List Ct} {i : Nat} {c : Ct} (h : l[i]? = some c) : prevAt l (i + 1) = some c := by simp [prevAt, h]
theorem prevAt_pos {l : List Ct} {i : Nat} (h0 : 0 < i) (h : i ≤ l.length) (hi : i < 2000000000) : ∃ q, prevAt l i = some q ∧ (cts l)[(IntKind.i64.wrap ((i : Int) - 1)).toNat]? = some q.v ∧ 0 ≤ IntKind.i64.wrap ((i : Int) - 1) := by
  have hw : IntKind.i64.wrap ((i : Int) - 1) = ((i - 1 : Nat) : Int) := by rw [wrap_id (by omega) (by omega)]; omega
  have hlt : i - 1 < l.length := by omega
  refine ⟨l[i - 1], ?_, ?_, by rw [hw]; omega⟩
  · unfold prevAt; rw [if_neg (by omega)]; simp [hlt]
  · rw [hw]; exact cts_at hlt
def ctsF (pl : List Nd) (l : List Ct) : Int := if 200 < l.length then 2 else ctsR pl none l
theorem ctsR_3 {pl : List Nd} {p : Option Ct} {c : Ct} {r : List Ct} (h : rightC pl c = false ∨ c.n = 0) : ctsR pl p (c :: r) = 3 := by rw [ctsR, if_pos h]
theorem ctsR_1 {pl : List Nd} {p : Option Ct} {c : Ct} {r : List Ct} (h : ¬ (rightC pl c = false ∨ c.n = 0)) (h2 : (p.elim false fun q => !ahead q c) = true) : ctsR pl p (c :: r) = 1 := by rw [ctsR, if_neg h, if_pos h2]
theorem ctsR_0 {pl : List Nd} {p : Option Ct} {c : Ct} {r : List Ct} (h : ¬ (rightC pl c = false ∨ c.n = 0)) (h2 : ¬ (p.elim false fun q => !ahead q c) = true) : ctsR pl p (c :: r) = ctsR pl (some c) r := by rw [ctsR, if_neg h, if_neg h2]
theorem l_ctsI (pl : List Nd) (l : List Ct) (hp : pl.length < 2000000) (hl : l.length ≤ 200) : ∀ i : Nat, (i ≤ l.length) → ∀ s, normE 2 (some [0, 1, 10, 11, 12]) s = ⟨[(0, .lst false 0 (nds false 0 pl)), (1, .lst false 0 (cts l)), (10, .lst false 0 (cts l)), (11, .int .i64 l.length), (12, .int .i64 i)], [], 2⟩ →
    oc.loop 105 4 s = some (if ctsR pl (prevAt l i) (l.drop i) = 0 then (.exit 0, ⟨[], [], 2⟩) else (.ret, ⟨[(4, .int .i64 (ctsR pl (prevAt l i) (l.drop i)))], [], 2⟩)) := by
  refine loop_ind (σ := Nat) (fun i => l.length - i) _ (fun i => ⟨[(0, .lst false 0 (nds false 0 pl)), (1, .lst false 0 (cts l)), (10, .lst false 0 (cts l)), (11, .int .i64 l.length), (12, .int .i64 i)], [], 2⟩) _ ?_
  intro i hi ih s hs
  refine loop_s cd105 rfl rfl hs ?_
  refine wa_ (wc_region (w_ (b_ (h := wo_nil (e_ (h := aft_normal (wa_ (?_))))))))
  refine c_ (h1 := ?_) (h2 := ?_)
  rotate_right 1
  focus
   intro c1
   first
   | exact dn c1
   | (have d1 := c1; try simp at d1
      refine wc_exit (?_)
      )
  rotate_right 1
  focus
   intro c1
   first
   | exact dn c1
   | (have d1 := c1; try simp at d1
      have hw := wrap_succ (i := i) (by omega); obtain ⟨c, hx, e1, g1⟩ := cts_cut (l := l) (i := i) (by omega); have hs1 := prevAt_succ hx
      refine wc_skip (?_)
      )
  all_goals first
  | refine aft_exit ?_
  | (refine aft_normal ?_
     refine wa_ (wc_block (wa_ (wc_region (w_ (m_ (h := w_ (x_ (h := w_ (l_ (h := w_ (al (h := w_ (a_ (h := w0 (s_ (h := wo_nil (e_ (h := aft_normal (?_)))))))))))))))))))
     refine wa_ (wa_ (wc_region (w_ (m_ (h := w_ (l_ (h := w_ (ca (hc := e_isCount pl c hp) (h := w_ (u_ (h := w_ (m_ (h := ?_)))))))))))))
     refine gw_ (h1 := ?_) (h2 := ?_)
     rotate_right 1
     focus
      intro c2
      first
      | exact dn c2
      | (have d2 := c2; try simp at d2
         refine go_ (h := go_ (h := go_ (h := ?_)))
         )
     rotate_right 1
     focus
      intro c2
      first
      | exact dn c2
      | (have d2 := c2; try simp at d2
         refine g_ (h := w_ (f_ (h := g_ (h := w_ (l_ (h := g_ (h := w_ (bE (h := ?_)))))))))
         )
     all_goals
      refine w_ (pk (h := wo_nil (e_ (h := ?_))))
     all_goals first
     | (refine aft_normal ?_
        refine c_ (h1 := ?_) (h2 := ?_)
        rotate_right 1
        focus
         intro c3
         first
         | exact dn c3
         | (have d3 := c3; try simp at d3
            refine wc_skip (?_)
            )
        rotate_right 1
        focus
         intro c3
         first
         | exact dn c3
         | (have d3 := c3; try simp at d3
            refine wa_ (wc_region (w_ (a_ (h := wo_nil (e_ (h := aft_normal (wc_ret (?_))))))))
            )
        )
     all_goals first
     | refine aft_ret ?_
     | (refine aft_normal ?_
        refine wa_ (wc_draw (y_ (m_ (h := ax_ (h := y_ (b_ (h := ax_ (h := y_ (m_ (h := ax_ (h := ?_)))))))))))
        refine gw_ (h1 := ?_) (h2 := ?_)
        rotate_right 1
        focus
         intro c4
         first
         | exact dn c4
         | (have d4 := c4; try simp at d4
            refine gd_ (h := gd_ (h := gd_ (h := gd_ (h := gd_ (h := gd_ (h := gd_ (h := gd_ (h := ?_))))))))
            )
        rotate_right 1
        focus
         intro c4
         first
         | exact dn c4
         | (have d4 := c4; try simp at d4
            obtain ⟨q, hq, g2, g3⟩ := prevAt_pos (l := l) (i := i) (by omega) (by omega) (by omega)
            refine g_ (h := y_ (m_ (h := ax_ (h := g_ (h := y_ (m_ (h := ax_ (h := g_ (h := y_ (b_ (h := ax_ (h := g_ (h := y_ (x_ (h := ax_ (h := g_ (h := y_ (l_ (h := ax_ (h := g_ (h := y_ (l_ (h := ax_ (h := g_ (h := y_ (ca (hc := e_byC q c) (h := ax_ (h := g_ (h := y_ (b_ (h := ax_ (h := ?_))))))))))))))))))))))))))))))))
            )
        all_goals
         refine y_ (pk (h := ax_ (h := wo_nil (ed (h := ?_)))))
        all_goals first
        | (refine aft_normal ?_
           refine c_ (h1 := ?_) (h2 := ?_)
           rotate_right 1
           focus
            intro c5
            first
            | exact dn c5
            | (have d5 := c5; try simp at d5
               refine wc_skip (?_)
               )
           rotate_right 1
           focus
            intro c5
            first
            | exact dn c5
            | (have d5 := c5; try simp at d5
               refine wa_ (wc_region (w_ (a_ (h := wo_nil (e_ (h := aft_normal (wc_ret (?_))))))))
               )
           )
        )
     all_goals first | refine blk_normal ?_ | refine blk_ret ?_
     all_goals first
     | refine aft_ret ?_
     | (refine aft_normal ?_
        refine wc_region (w_ (b_ (h := w_ (m_ (h := wo_nil (e_ (h := ?_)))))))
        )
     )
  all_goals first
  | (refine (ih (i + 1) (by omega) ?_ _ ?_).trans ?_; (focus (first | omega | (simp; done) | (simp; omega))); (focus (simp [normE, hw]; done)); (focus (rw [hs1, e1, ctsR_0 (by simp [d2, d3]) (by first | (rw [hq]; simp [ahead_t d5]; done) | (subst d4; simp [prevAt]))])))
  | (apply end_leaf (ex := Ext.ret) 2 (some [4]); (focus (simp [normE]; rfl)); (focus (rw [e1, ctsR_3 (by first | exact .inl d2 | exact .inr d3)]; simp)))
  | (apply end_leaf (ex := Ext.ret) 2 (some [4]); (focus (simp [normE]; rfl)); (focus (rw [e1, ctsR_1 (by simp [d2, d3]) (by rw [hq]; simp [ahead_f d5])]; simp)))
  | (apply end_leaf (ex := (Ext.exit 0)) 2 (some [4]); (focus (simp [normE]; rfl)); (focus (rw [List.drop_eq_nil_of_le (by omega)]; simp [ctsR])))
theorem e_ctsF (pl : List Nd) (l : List Ct) (hp : pl.length < 2000000) : oc.call 105 [.lst false 0 (nds false 0 pl), .lst false 0 (cts l)] = some (.int .i64 (ctsF pl l), []) := by
  refine fun_s rfl cd105 rfl rfl rfl (by simp; rfl) (by simp; rfl) ?_
  refine wa_ (wc_region (w_ (a_ (h := wo_nil (e_ (h := aft_normal (wa_ (wa_ (wc_region (w_ (m_ (h := w_ (le (h := w_ (b_ (h := wo_nil (e_ (h := ?_))))))))))))))))))
  refine aft_normal (?_)
  refine c_ (h1 := ?_) (h2 := ?_)
  rotate_right 1
  focus
   intro c1
   first
   | exact dn c1
   | (have d1 := c1; try simp at d1
      refine wc_skip (?_)
      )
  rotate_right 1
  focus
   intro c1
   first
   | exact dn c1
   | (have d1 := c1; try simp at d1
      refine wa_ (wc_region (w_ (a_ (h := wo_nil (e_ (h := aft_normal (wc_ret (?_))))))))
      )
  all_goals first
  | refine aft_ret ?_
  | (refine aft_normal ?_
     refine wa_ (wa_ (wc_region (w_ (m_ (h := w_ (le (h := w_ (m_ (h := wo_nil (e_ (h := aft_normal (wc_block (?_)))))))))))))
     refine wc_loopI (l_ctsI pl l hp (by omega) 0 (by omega) _ (by simp [normE])) ?_ ?_
     rotate_right 1
     focus
      intro c2
      first
      | exact dn c2
      | (have d2 := c2; try simp at d2
         skip
         )
     rotate_right 1
     focus
      intro c2
      first
      | exact dn c2
      | (have d2 := c2; try simp at d2
         skip
         )
     all_goals first | refine blk_ret ?_ | refine blk_exit ?_
     all_goals first
     | refine aft_ret ?_
     | (refine aft_normal ?_
        refine wa_ (wc_region (w_ (a_ (h := wo_nil (e_ (h := aft_normal (wc_ret (?_))))))))
        )
     )
  all_goals (refine fin_ (hr := (res_tmp rfl res_nil)) (h := ?_); (focus (simp [ctsF, prevAt] at * <;> grind)))
theorem l_ctsS (pl : List Nd) (l : List Ct) (hp : pl.length < 2000000) (hl : l.length ≤ 200) : ∀ i : Nat, (i ≤ l.length) → ∀ s, normE 2 (some [0, 1, 6]) s = ⟨[(0, .lst false 0 (nds false 0 pl)), (1, .lst false 0 (cts l)), (6, .int .i64 i)], [], 2⟩ →
    oc.loop 39 7 s = some (if ctsR pl (prevAt l i) (l.drop i) = 0 then (.exit 0, ⟨[], [], 2⟩) else (.ret, ⟨[(4, .int .i64 (ctsR pl (prevAt l i) (l.drop i)))], [], 2⟩)) := by
  refine loop_ind (σ := Nat) (fun i => l.length - i) _ (fun i => ⟨[(0, .lst false 0 (nds false 0 pl)), (1, .lst false 0 (cts l)), (6, .int .i64 i)], [], 2⟩) _ ?_
  intro i hi ih s hs
  refine loop_s cd39 rfl rfl hs ?_
  refine wa_ (wa_ (wc_region (w_ (m_ (h := w_ (m_ (h := w_ (le (h := w_ (b_ (h := wo_nil (e_ (h := aft_normal (?_))))))))))))))
  refine c_ (h1 := ?_) (h2 := ?_)
  rotate_right 1
  focus
   intro c1
   first
   | exact dn c1
   | (have d1 := c1; try simp at d1
      refine wc_exit (?_)
      )
  rotate_right 1
  focus
   intro c1
   first
   | exact dn c1
   | (have d1 := c1; try simp at d1
      have hw := wrap_succ (i := i) (by omega); obtain ⟨c, hx, e1, g1⟩ := cts_cut (l := l) (i := i) (by omega); have hs1 := prevAt_succ hx
      refine wc_skip (?_)
      )
  all_goals first
  | refine aft_exit ?_
  | (refine aft_normal ?_
     refine wa_ (wc_block (wa_ (wa_ (wc_region (w_ (m_ (h := w_ (m_ (h := w_ (m_ (h := w_ (x_ (h := w_ (l_ (h := w_ (ca (hc := e_l7Right pl c hp) (h := w_ (u_ (h := ?_)))))))))))))))))))
     refine w_ (m_ (h := ?_))
     refine gw_ (h1 := ?_) (h2 := ?_)
     rotate_right 1
     focus
      intro c2
      first
      | exact dn c2
      | (have d2 := c2; try simp at d2
         refine go_ (h := go_ (h := go_ (h := go_ (h := go_ (h := go_ (h := ?_))))))
         )
     rotate_right 1
     focus
      intro c2
      first
      | exact dn c2
      | (have d2 := c2; try simp at d2
         refine g_ (h := w_ (m_ (h := g_ (h := w_ (m_ (h := g_ (h := w_ (x_ (h := g_ (h := w_ (f_ (h := g_ (h := w_ (l_ (h := g_ (h := w_ (bE (h := ?_))))))))))))))))))
         )
     all_goals
      refine w_ (pk (h := wo_nil (e_ (h := ?_))))
     all_goals first
     | (refine aft_normal ?_
        refine c_ (h1 := ?_) (h2 := ?_)
        rotate_right 1
        focus
         intro c3
         first
         | exact dn c3
         | (have d3 := c3; try simp at d3
            refine wc_skip (?_)
            )
        rotate_right 1
        focus
         intro c3
         first
         | exact dn c3
         | (have d3 := c3; try simp at d3
            refine wa_ (wc_region (w_ (a_ (h := wo_nil (e_ (h := aft_normal (wc_ret (?_))))))))
            )
        )
     all_goals first
     | refine aft_ret ?_
     | (refine aft_normal ?_
        refine wa_ (wc_draw (y_ (m_ (h := ax_ (h := y_ (b_ (h := ax_ (h := y_ (m_ (h := ax_ (h := ?_)))))))))))
        refine gw_ (h1 := ?_) (h2 := ?_)
        rotate_right 1
        focus
         intro c4
         first
         | exact dn c4
         | (have d4 := c4; try simp at d4
            refine gd_ (h := gd_ (h := gd_ (h := gd_ (h := gd_ (h := gd_ (h := gd_ (h := gd_ (h := gd_ (h := gd_ (h := gd_ (h := ?_)))))))))))
            )
        rotate_right 1
        focus
         intro c4
         first
         | exact dn c4
         | (have d4 := c4; try simp at d4
            obtain ⟨q, hq, g2, g3⟩ := prevAt_pos (l := l) (i := i) (by omega) (by omega) (by omega)
            refine g_ (h := y_ (m_ (h := ax_ (h := g_ (h := y_ (m_ (h := ax_ (h := g_ (h := y_ (b_ (h := ax_ (h := g_ (h := y_ (x_ (h := ax_ (h := g_ (h := y_ (l_ (h := ax_ (h := g_ (h := y_ (m_ (h := ax_ (h := g_ (h := y_ (m_ (h := ax_ (h := g_ (h := y_ (x_ (h := ax_ (h := g_ (h := y_ (l_ (h := ax_ (h := g_ (h := y_ (ca (hc := e_ahead q c) (h := ax_ (h := g_ (h := y_ (u_ (h := ax_ (h := ?_))))))))))))))))))))))))))))))))))))))))))))
            )
        all_goals
         refine y_ (pk (h := ax_ (h := wo_nil (ed (h := ?_)))))
        all_goals first
        | (refine aft_normal ?_
           refine c_ (h1 := ?_) (h2 := ?_)
           rotate_right 1
           focus
            intro c5
            first
            | exact dn c5
            | (have d5 := c5; try simp at d5
               refine wc_skip (?_)
               )
           rotate_right 1
           focus
            intro c5
            first
            | exact dn c5
            | (have d5 := c5; try simp at d5
               refine wa_ (wc_region (w_ (a_ (h := wo_nil (e_ (h := aft_normal (wc_ret (?_))))))))
               )
           )
        )
     all_goals first | refine blk_normal ?_ | refine blk_ret ?_
     all_goals first
     | refine aft_ret ?_
     | (refine aft_normal ?_
        refine wc_region (w_ (m_ (h := w_ (b_ (h := w_ (a_ (h := wo_nil (e_ (h := ?_)))))))))
        )
     )
  all_goals first
  | (refine (ih (i + 1) (by omega) ?_ _ ?_).trans ?_; (focus (first | omega | (simp; done) | (simp; omega))); (focus (simp [normE, hw]; done)); (focus (rw [hs1, e1, ctsR_0 (by simp [d2, d3]) (by first | (rw [hq]; simp [d5]; done) | (subst d4; simp [prevAt]))])))
  | (apply end_leaf (ex := Ext.ret) 2 (some [4]); (focus (simp [normE]; rfl)); (focus (rw [e1, ctsR_3 (by first | exact .inl d2 | exact .inr d3)]; simp)))
  | (apply end_leaf (ex := Ext.ret) 2 (some [4]); (focus (simp [normE]; rfl)); (focus (rw [e1, ctsR_1 (by simp [d2, d3]) (by rw [hq]; simp [d5])]; simp)))
  | (apply end_leaf (ex := (Ext.exit 0)) 2 (some [4]); (focus (simp [normE]; rfl)); (focus (rw [List.drop_eq_nil_of_le (by omega)]; simp [ctsR])))
def ctsN (pl : List Nd) (l : List Ct) : Int := if (lookN pl).2 = 0 then ctsF pl l else (lookN pl).2
theorem e_ctsFS (pl : List Nd) (l : List Ct) (hp : pl.length < 2000000) (hk : okN pl) : oc.call 39 [.lst false 0 (nds false 0 pl), .lst false 0 (cts l)] = some (.int .i64 (ctsN pl l), []) := by
  refine fun_s rfl cd39 rfl rfl rfl (by simp; rfl) (by simp; rfl) ?_
  refine wa_ (wc_region (w_ (a_ (h := wo_nil (e_ (h := aft_normal (wa_ (wa_ (wc_region (w_ (m_ (h := w_ (ca (hc := e_planS pl hp hk) (h := w_ (a_ (h := wo_nil (e_ (h := ?_))))))))))))))))))
  refine aft_normal (wa_ (wc_region (w_ (m_ (h := w_ (bE (h := wo_nil (e_ (h := aft_normal (?_))))))))))
  refine c_ (h1 := ?_) (h2 := ?_)
  rotate_right 1
  focus
   intro c1
   first
   | exact dn c1
   | (have d1 := c1; try simp at d1
      refine wc_skip (?_)
      )
  rotate_right 1
  focus
   intro c1
   first
   | exact dn c1
   | (have d1 := c1; try simp at d1
      refine wa_ (wc_region (w_ (m_ (h := w_ (a_ (h := wo_nil (e_ (h := aft_normal (wc_ret (?_))))))))))
      )
  all_goals first
  | refine aft_ret ?_
  | (refine aft_normal ?_
     refine wa_ (wa_ (wc_region (w_ (m_ (h := w_ (le (h := w_ (b_ (h := wo_nil (e_ (h := aft_normal (?_))))))))))))
     refine c_ (h1 := ?_) (h2 := ?_)
     rotate_right 1
     focus
      intro c2
      first
      | exact dn c2
      | (have d2 := c2; try simp at d2
         refine wc_skip (?_)
         )
     rotate_right 1
     focus
      intro c2
      first
      | exact dn c2
      | (have d2 := c2; try simp at d2
         refine wa_ (wc_region (w_ (a_ (h := wo_nil (e_ (h := aft_normal (wc_ret (?_))))))))
         )
     all_goals first
     | refine aft_ret ?_
     | (refine aft_normal ?_
        refine wa_ (wa_ (wc_region (w_ (a_ (h := wo_nil (e_ (h := aft_normal (wc_block (?_)))))))))
        refine wc_loopI (l_ctsS pl l hp (by omega) 0 (by omega) _ (by simp [normE])) ?_ ?_
        rotate_right 1
        focus
         intro c3
         first
         | exact dn c3
         | (have d3 := c3; try simp at d3
            skip
            )
        rotate_right 1
        focus
         intro c3
         first
         | exact dn c3
         | (have d3 := c3; try simp at d3
            skip
            )
        all_goals first | refine blk_ret ?_ | refine blk_exit ?_
        all_goals first
        | refine aft_ret ?_
        | (refine aft_normal ?_
           refine wa_ (wc_region (w_ (a_ (h := wo_nil (e_ (h := aft_normal (wc_ret (?_))))))))
           )
        )
     )
  all_goals (refine fin_ (hr := (res_tmp rfl res_nil)) (h := ?_); (focus (clear hk; simp [ctsN, ctsF, prevAt] at * <;> grind)))
theorem e_ctsFI (pl : List Nd) (l : List Ct) (hp : pl.length < 2000000) (hk : okN pl) : oc.call 41 [.lst false 0 (nds false 0 pl), .lst false 0 (cts l)] = some (.int .i64 (ctsN pl l), []) := by
  refine fun_s rfl cd41 rfl rfl rfl (by simp; rfl) (by simp; rfl) ?_
  refine wa_ (wc_region (w_ (a_ (h := wo_nil (e_ (h := aft_normal (wa_ (wa_ (wc_region (w_ (m_ (h := w_ (ca (hc := e_planI pl hp hk) (h := w_ (a_ (h := wo_nil (e_ (h := ?_))))))))))))))))))
  refine aft_normal (wa_ (wc_region (w_ (m_ (h := w_ (bE (h := wo_nil (e_ (h := aft_normal (?_))))))))))
  refine c_ (h1 := ?_) (h2 := ?_)
  rotate_right 1
  focus
   intro c1
   first
   | exact dn c1
   | (have d1 := c1; try simp at d1
      refine wc_skip (?_)
      )
  rotate_right 1
  focus
   intro c1
   first
   | exact dn c1
   | (have d1 := c1; try simp at d1
      refine wa_ (wc_region (w_ (m_ (h := w_ (a_ (h := wo_nil (e_ (h := aft_normal (wc_ret (?_))))))))))
      )
  all_goals first
  | refine aft_ret ?_
  | (refine aft_normal ?_
     refine wa_ (wc_region (w_ (m_ (h := w_ (m_ (h := w_ (ca (hc := e_ctsF pl l hp) (h := w_ (a_ (h := wo_nil (e_ (h := aft_normal (wc_ret (?_))))))))))))))
     )
  all_goals (refine fin_ (hr := (res_tmp rfl res_nil)) (h := ?_); (focus (clear hk; simp [ctsN] at * <;> grind)))
theorem law_countsFault (pl : List Nd) (l : List Ct) (ho : okB pl) (hl : l.length ≤ 140737488351232) : oc.call 7 [.lst false 0 (nds false 0 pl), .lst false 0 (cts l)] = some (.bool true, []) := by
  refine fun_s rfl cd7 rfl rfl rfl (by simp; rfl) (by simp; rfl) ?_
  refine wa_ (wc_region (w_ (a_ (h := wo_nil (e_ (h := aft_normal (wa_ (wc_region (w_ (a_ (h := wo_nil (e_ (h := aft_normal (wa_ (wc_region (?_))))))))))))))))
  refine w_ (m_ (h := w_ (m_ (h := w_ (ca (hc := e_szNS pl 0 1048576 ho (by omega) (by omega)) (h := w_ (a_ (h := wo_nil (e_ (h := aft_normal (wa_ (wa_ (wc_region (w_ (m_ (h := w_ (b_ (h := wo_nil (e_ (h := ?_))))))))))))))))))))
  refine aft_normal (?_)
  refine c_ (h1 := ?_) (h2 := ?_)
  rotate_right 1
  focus
   intro c1
   first
   | exact dn c1
   | (have d1 := c1; try simp at d1
      obtain ⟨h1, h2, h3⟩ := szP_ok (l := pl) (a := 1048576) (by omega) (by omega)
      refine wc_skip (?_)
      )
  rotate_right 1
  focus
   intro c1
   first
   | exact dn c1
   | (have d1 := c1; try simp at d1
      refine wa_ (wc_region (w_ (a_ (h := wo_nil (e_ (h := aft_normal (wc_ret (?_))))))))
      )
  all_goals first
  | refine aft_ret ?_
  | (refine aft_normal ?_
     refine wa_ (wc_region (w_ (m_ (h := w_ (m_ (h := w_ (ca (hc := sz_Cts l (szP pl 1048576) hl (by omega) (by omega)) (h := w_ (a_ (h := wo_nil (e_ (h := aft_normal (wa_ (wa_ (wc_region (w_ (m_ (h := ?_))))))))))))))))))
     refine w_ (b_ (h := wo_nil (e_ (h := aft_normal (?_)))))
     refine c_ (h1 := ?_) (h2 := ?_)
     rotate_right 1
     focus
      intro c2
      first
      | exact dn c2
      | (have d2 := c2; try simp at d2
         obtain ⟨h4, h5⟩ := szI_pos (n := l.length) (a := szP pl 1048576) (by omega)
         refine wc_skip (?_)
         )
     rotate_right 1
     focus
      intro c2
      first
      | exact dn c2
      | (have d2 := c2; try simp at d2
         refine wa_ (wc_region (w_ (a_ (h := wo_nil (e_ (h := aft_normal (wc_ret (?_))))))))
         )
     all_goals first
     | refine aft_ret ?_
     | (refine aft_normal ?_
        refine wa_ (wc_region (w_ (m_ (h := w_ (ca (hc := e_toNS pl 0 h1 h2) (h := w_ (m_ (h := w_ (ca (hc := to_Cts l (by omega)) (h := w_ (ca (hc := e_ctsFS pl l h1 h2) (h := w_ (a_ (h := wo_nil (e_ (h := aft_normal (wa_ (wc_region (?_)))))))))))))))))))
        refine w_ (m_ (h := w_ (ca (hc := e_toNS pl 0 h1 h2) (h := w_ (a_ (h := wo_nil (e_ (h := aft_normal (wa_ (wc_region (w_ (m_ (h := w_ (ca (hc := to_Cts l (by omega)) (h := w_ (a_ (h := wo_nil (e_ (h := aft_normal (?_))))))))))))))))))))
        refine wa_ (wc_region (w_ (m_ (h := w_ (m_ (h := w_ (ca (hc := e_ctsFI pl l h1 h2) (h := w_ (a_ (h := wo_nil (e_ (h := aft_normal (wa_ (wa_ (wc_region (w_ (m_ (h := ?_))))))))))))))))))
        refine w_ (m_ (h := w_ (bE (h := wo_nil (e_ (h := aft_normal (?_)))))))
        refine c_ (h1 := ?_) (h2 := ?_)
        rotate_right 1
        focus
         intro c3
         first
         | exact dn c3
         | (have d3 := c3; try simp at d3
            refine wc_skip (?_)
            )
        rotate_right 1
        focus
         intro c3
         first
         | exact dn c3
         | (have d3 := c3; try simp at d3
            refine wa_ (wc_region (w_ (a_ (h := wo_nil (e_ (h := aft_normal (wc_ret (?_))))))))
            )
        all_goals first
        | refine aft_ret ?_
        | (refine aft_normal ?_
           refine wa_ (wa_ (wc_region (w_ (m_ (h := w_ (m_ (h := w_ (ca (hc := e_toNS pl 0 h1 h2) (h := w_ (ca (hc := e_eqNS pl pl 0 0 h1 h1 h2 h2) (h := w_ (u_ (h := wo_nil (e_ (h := aft_normal (?_))))))))))))))))
           refine c_ (h1 := ?_) (h2 := ?_)
           rotate_right 1
           focus
            intro c4
            first
            | exact dn c4
            | (have d4 := c4; try simp at d4
               refine wc_skip (?_)
               )
           rotate_right 1
           focus
            intro c4
            first
            | exact dn c4
            | (have d4 := c4; try simp at d4
               refine wa_ (wc_region (w_ (a_ (h := wo_nil (e_ (h := aft_normal (wc_ret (?_))))))))
               )
           all_goals first
           | refine aft_ret ?_
           | (refine aft_normal ?_
              refine wa_ (wa_ (wc_region (w_ (m_ (h := w_ (m_ (h := w_ (ca (hc := to_Cts l (by omega)) (h := w_ (ca (hc := eq_Cts l l (by omega) (by omega)) (h := w_ (u_ (h := wo_nil (e_ (h := aft_normal (?_))))))))))))))))
              refine c_ (h1 := ?_) (h2 := ?_)
              rotate_right 1
              focus
               intro c5
               first
               | exact dn c5
               | (have d5 := c5; try simp at d5
                  refine wc_skip (?_)
                  )
              rotate_right 1
              focus
               intro c5
               first
               | exact dn c5
               | (have d5 := c5; try simp at d5
                  refine wa_ (wc_region (w_ (a_ (h := wo_nil (e_ (h := aft_normal (wc_ret (?_))))))))
                  )
              all_goals first
              | refine aft_ret ?_
              | (refine aft_normal ?_
                 refine wa_ (wc_region (w_ (a_ (h := wo_nil (e_ (h := aft_normal (wc_ret (?_))))))))
                 )
              )
           )
        )
     )
  all_goals (refine fin_ (hr := (res_tmp rfl res_nil)) (h := ?_); (focus (simp)))
end Go.Proofs.Ytmednhpmcplplaa.Ev
namespace Go.Proofs.Ytmednhpmcplplaa.Ev
open Go
set_option maxRecDepth 100000
set_option linter.unusedSimpArgs false
set_option linter.unusedVariables false
set_option maxHeartbeats 2000000
def mkI (k : Int) (n : Nat) : List Int := (List.range n).map fun (i : Nat) => k + i
@[simp] theorem mkI_len {k : Int} {n : Nat} : (mkI k n).length = n := by simp [mkI]
theorem mkI_at {k : Int} {n i : Nat} (h : i < n) : (mkI k n)[i]? = some (k + i) := by simp [mkI, h]
theorem alikeL_map {α : Type} {f g : α → V} (hf : ∀ x y, (f x).alike (g y) = true) : ∀ {a b : List α}, V.alikeL (a.map f) (b.map g) = decide (a.length = b.length)
  | [], [] => rfl
  | [], _ :: _ => by simp [V.alikeL]
  | _ :: _, [] => by simp [V.alikeL]
  | x :: a, y :: b => by simp only [List.map_cons, V.alikeL, hf, Bool.true_and, alikeL_map hf (a := a) (b := b), List.length_cons, Nat.add_right_cancel_iff]
@[simp] theorem alike_ints (a b : List Int) : V.alikeL (ints a) (ints b) = decide (a.length = b.length) := alikeL_map (fun _ _ => rfl)
theorem set_drop {α : Type} {r l : List α} {i : Nat} {x : α} (h : r.drop i = l.drop i) : (r.set i x).drop (i + 1) = l.drop (i + 1) := by
  rw [List.drop_set_of_lt (by omega), ← List.drop_drop, h, List.drop_drop]
theorem wS_cut {α : Type} {f : α → Nat} {l : List α} {i : Nat} {x : α} (h : l[i]? = some x) : wS f (l.take (i + 1)) = wS f (l.take i) + f x := by
  induction l generalizing i with
  | nil => simp at h
  | cons y r ih =>
    cases i with
    | zero => simp at h; subst h; simp
    | succ i => simp at h; simp only [List.take_succ_cons, wS_cons]; rw [ih h]; omega
theorem wS_take {α : Type} {f : α → Nat} {l : List α} {i : Nat} : wS f (l.take i) ≤ wS f l := by
  induction l generalizing i with
  | nil => simp
  | cons y r ih =>
    cases i with
    | zero => simp
    | succ i => have := ih (i := i); simp only [List.take_succ_cons, wS_cons]; omega
theorem wS_len {α : Type} {f : α → Nat} (hf : ∀ x, 1 ≤ f x) {l : List α} : l.length ≤ wS f l := by
  induction l with
  | nil => simp
  | cons y r ih => have := hf y; simp only [List.length_cons, wS_cons]; omega
theorem l_mk_I (k : Int) (n : Nat) (hk : 0 ≤ k) (hb : k + n < 1000000000000000000) : ∀ x : Nat × (List Int), (x.1 ≤ n ∧ x.2.length = n ∧ x.2.take x.1 = (mkI k n).take x.1) → ∀ s, normE 2 (some [0, 1, 5]) s = ⟨[(0, .ref 0 0 n), (1, .int .i64 (k + x.1)), (5, .int .i64 x.1)], [(0, ⟨false, true, 1, ints x.2, 0⟩)], 2⟩ →
    oc.loop 88 2 s = some (.exit 0, ⟨[(1, .int .i64 (k + n))], [(0, ⟨false, true, 1, ints (mkI k n), 0⟩)], 2⟩) := by
  refine loop_ind (σ := Nat × (List Int)) (fun x => n - x.1) _ (fun x => ⟨[(0, .ref 0 0 n), (1, .int .i64 (k + x.1)), (5, .int .i64 x.1)], [(0, ⟨false, true, 1, ints x.2, 0⟩)], 2⟩) _ ?_
  rintro ⟨i, r⟩ hi ih s hs
  simp only at hi
  refine loop_s cd88 rfl rfl hs ?_
  obtain ⟨hi1, hi2, hi3⟩ := hi
  refine wa_ (wa_ (wc_region (w_ (m_ (h := w_ (m_ (h := w_ (le (h := w_ (b_ (h := wo_nil (e_ (h := aft_normal (?_))))))))))))))
  refine c_ (h1 := ?_) (h2 := ?_)
  rotate_right 1
  focus
   intro c1
   simp at c1; obtain rfl : i = n := (by omega); obtain rfl : r = mkI k i := (by rw [List.take_of_length_le (by omega), List.take_of_length_le (by simp)] at hi3; exact hi3)
   refine wc_exit (?_)
  rotate_right 1
  focus
   intro c1
   simp at c1; have hw := wrap_succ (i := i) (by omega); obtain ⟨y, hy⟩ : ∃ y, r[i]? = some y := (List.getElem?_eq_some_iff.2 ⟨by omega, rfl⟩ |> fun h => ⟨_, h⟩); have g2 : (ints r)[i]? = some (.int .i64 y) := (by simp [ints, hy]); have hw2 : IntKind.i64.wrap (k + (i : Int) + 1) = k + ((i + 1 : Nat) : Int) := (wrap_id (by omega) (by omega)).trans (by omega)
   refine wc_skip (?_)
  all_goals first
  | refine aft_exit ?_
  | (refine aft_normal ?_
     refine wa_ (wc_block (wa_ (wc_region (w_ (m_ (h := w_ (m_ (h := w_ (m_ (h := w_ (x_ (h := w0 (s_ (h := wo_nil (e_ (h := aft_normal (wc_region (?_))))))))))))))))))
     refine w_ (m_ (h := w_ (b_ (h := w_ (a_ (h := wo_nil (e_ (h := blk_normal (aft_normal (wc_region (w_ (m_ (h := w_ (b_ (h := w_ (a_ (h := wo_nil (e_ (h := ?_)))))))))))))))))))
     )
  all_goals first
  | (refine (ih ((i + 1, r.set i (k + i))) (⟨by simp; omega, by simpa using hi2, set_take hi3 (by simpa using hi2) (mkI_at (by omega))⟩) ?_ _ ?_).trans ?_; (focus (first | omega | (simp; done) | (simp; omega))); (focus (simp [normE, hw, hw2]; done)); (focus (rfl)))
  | (apply end_leaf (ex := (Ext.exit 0)) 2 (some [1]); (focus (simp [normE]; rfl)); (focus (simp)))
theorem mk_I (k : Int) (l : List Int) (hk : 0 ≤ k) (hb : k + (l.length : Nat) < 1000000000000000000) : oc.call 88 [.iol 1 (ints l), .int .i64 k] = some (.int .i64 (k + l.length), [.lst true 1 (ints (mkI k l.length))]) := by
  refine fun_s rfl cd88 rfl rfl rfl (by simp; rfl) (by simp; rfl) ?_
  refine wa_ (wc_region (w_ (a_ (h := wo_nil (e_ (h := aft_normal (wa_ (wa_ (wc_region (w_ (a_ (h := wo_nil (e_ (h := aft_normal (wc_block (?_))))))))))))))))
  refine wc_loop (l_mk_I k l.length hk hb (0, l) (by simp) _ (by simp [normE])) ?_
  refine blk_exit (aft_normal (wa_ (wc_region (w_ (m_ (h := w_ (a_ (h := wo_nil (e_ (h := aft_normal (wc_ret (?_))))))))))))
  all_goals (refine fin_ (hr := (res_tmp rfl res_nil)) (h := ?_); (focus (first | (simp_all; done) | (simp_all <;> omega) | (simp_all <;> split <;> simp_all <;> omega))))
theorem l_held_I (k : Int) (n : Nat) (hk : 0 ≤ k) (hb : k + n < 1000000000000000000) : ∀ i : Nat, (i ≤ n) → ∀ s, normE 2 (some [0, 1, 5]) s = ⟨[(0, .lst false 0 (ints (mkI k n))), (1, .int .i64 (k + i)), (5, .int .i64 i)], [], 2⟩ →
    oc.loop 177 2 s = some (.exit 0, ⟨[(1, .int .i64 (k + n))], [], 2⟩) := by
  refine loop_ind (σ := Nat) (fun i => n - i) _ (fun i => ⟨[(0, .lst false 0 (ints (mkI k n))), (1, .int .i64 (k + i)), (5, .int .i64 i)], [], 2⟩) _ ?_
  intro i hi ih s hs
  refine loop_s cd177 rfl rfl hs ?_
  refine wa_ (wa_ (wc_region (w_ (m_ (h := w_ (m_ (h := w_ (le (h := w_ (b_ (h := wo_nil (e_ (h := aft_normal (?_))))))))))))))
  refine c_ (h1 := ?_) (h2 := ?_)
  rotate_right 1
  focus
   intro c1
   first
   | exact dn c1
   | (have d1 := c1; try simp at d1
      refine wc_exit (?_)
      )
  rotate_right 1
  focus
   intro c1
   first
   | exact dn c1
   | (have d1 := c1; try simp at d1
      have hw := wrap_succ (i := i) (by omega); have g2 : (ints (mkI k n))[i]? = some (.int .i64 (k + i)) := (by simp [ints, mkI_at (show i < n by simpa using d1)]); have hw2 : IntKind.i64.wrap (k + (i : Int) + 1) = k + ((i + 1 : Nat) : Int) := (wrap_id (by omega) (by omega)).trans (by omega)
      refine wc_skip (?_)
      )
  all_goals first
  | refine aft_exit ?_
  | (refine aft_normal ?_
     refine wa_ (wc_block (wa_ (wa_ (wc_region (w_ (m_ (h := w_ (m_ (h := w_ (x_ (h := w_ (l_ (h := w_ (m_ (h := w_ (bE (h := wo_nil (e_ (h := ?_)))))))))))))))))))
     refine aft_normal (?_)
     refine c_ (h1 := ?_) (h2 := ?_)
     rotate_right 1
     focus
      intro c2
      first
      | exact dn c2
      | (have d2 := c2; try simp at d2
         refine wc_skip (?_)
         )
     rotate_right 1
     focus
      intro c2
      first
      | exact dn c2
      | (have d2 := c2; try simp at d2
         refine wa_ (wc_region (w_ (a_ (h := wo_nil (e_ (h := aft_normal (wc_ret (?_))))))))
         )
     all_goals first
     | refine aft_ret ?_
     | (refine aft_normal ?_
        refine wc_region (w_ (m_ (h := w_ (b_ (h := w_ (a_ (h := wo_nil (e_ (h := ?_)))))))))
        )
     all_goals first | refine blk_normal ?_ | refine blk_ret ?_
     all_goals first
     | refine aft_ret ?_
     | (refine aft_normal ?_
        refine wc_region (w_ (m_ (h := w_ (b_ (h := w_ (a_ (h := wo_nil (e_ (h := ?_)))))))))
        )
     )
  all_goals first
  | (refine (ih (i + 1) (by omega) ?_ _ ?_).trans ?_; (focus (first | omega | (simp; done) | (simp; omega))); (focus (simp [normE, hw, hw2]; done)); (focus (rfl)))
  | (apply end_leaf (ex := (Ext.exit 0)) 2 (some [1, 4]); (focus (simp [normE]; rfl)); (focus (simp; omega)))
theorem held_I (k : Int) (n : Nat) (hk : 0 ≤ k) (hb : k + n < 1000000000000000000) : oc.call 177 [.lst false 0 (ints (mkI k n)), .int .i64 k] = some (.int .i64 (k + n), []) := by
  refine fun_s rfl cd177 rfl rfl rfl (by simp; rfl) (by simp; rfl) ?_
  refine wa_ (wc_region (w_ (a_ (h := wo_nil (e_ (h := aft_normal (wa_ (wa_ (wc_region (w_ (a_ (h := wo_nil (e_ (h := aft_normal (wc_block (?_))))))))))))))))
  refine wc_loop (l_held_I k n hk hb 0 (by omega) _ (by simp [normE])) ?_
  first | refine blk_ret ?_ | refine blk_exit ?_
  all_goals first
  | refine aft_ret ?_
  | (refine aft_normal ?_
     refine wa_ (wc_region (w_ (m_ (h := w_ (a_ (h := wo_nil (e_ (h := aft_normal (wc_ret (?_))))))))))
     )
  all_goals (refine fin_ (hr := (res_tmp rfl res_nil)) (h := ?_); (focus (first | (simp_all; done) | (simp_all <;> omega) | (simp_all <;> split <;> simp_all <;> omega))))
def cn_Ct (x : Ct) : Nat := 1 + 1 + 1
theorem cn_Ct_pos (x : Ct) : 1 ≤ cn_Ct x := by unfold cn_Ct; omega
def cn_Cts (l : List Ct) : Nat := wS cn_Ct l
theorem cn_Cts_len {l : List Ct} : l.length ≤ cn_Cts l := wS_len cn_Ct_pos
def mk_Ct (k : Int) (x : Ct) : Ct := ⟨k, k + 1, k + 1 + 1⟩
@[simp] theorem mk_Ct_pl (k : Int) (x : Ct) : (mk_Ct k x).pl = k := rfl
@[simp] theorem mk_Ct_ep (k : Int) (x : Ct) : (mk_Ct k x).ep = k + 1 := rfl
@[simp] theorem mk_Ct_n (k : Int) (x : Ct) : (mk_Ct k x).n = k + 1 + 1 := rfl
def mk_Cts (k : Int) : List Ct → List Ct
  | [] => []
  | x :: r => mk_Ct k x :: mk_Cts (k + (cn_Ct x : Nat)) r
@[simp] theorem mk_Cts_len {k : Int} {l : List Ct} : (mk_Cts k l).length = l.length := by
  induction l generalizing k with
  | nil => rfl
  | cons x r ih => simp [mk_Cts, ih]
@[simp] theorem mk_Cts_take {k : Int} {l : List Ct} : (mk_Cts k l).take l.length = mk_Cts k l := List.take_of_length_le (by simp)
theorem mk_Cts_at {k : Int} {l : List Ct} {i : Nat} {x : Ct} (h : l[i]? = some x) : (mk_Cts k l)[i]? = some (mk_Ct (k + (cn_Cts (l.take i) : Nat)) x) := by
  induction l generalizing k i with
  | nil => simp at h
  | cons y r ih =>
    cases i with
    | zero => simp at h; subst h; simp [mk_Cts, cn_Cts]
    | succ i => simp at h; simp only [mk_Cts, List.getElem?_cons_succ, ih h, List.take_succ_cons, cn_Cts, wS_cons]; congr 2; push_cast; omega
@[simp] theorem alike_cts (a b : List Ct) : V.alikeL (cts a) (cts b) = decide (a.length = b.length) := alikeL_map (fun _ _ => rfl)
theorem l_mk_Cts (k : Int) (l : List Ct) (hk : 0 ≤ k) (hb : k + (cn_Cts l : Nat) < 1000000000000000000) : ∀ x : Nat × (List Ct), (x.1 ≤ l.length ∧ x.2.length = l.length ∧ x.2.take x.1 = (mk_Cts k l).take x.1 ∧ x.2.drop x.1 = l.drop x.1) → ∀ s, normE 2 (some [0, 1, 5]) s = ⟨[(0, .ref 0 0 l.length), (1, .int .i64 (k + (cn_Cts (l.take x.1) : Nat))), (5, .int .i64 x.1)], [(0, ⟨false, true, 3, cts x.2, 0⟩)], 2⟩ →
    oc.loop 117 2 s = some (.exit 0, ⟨[(1, .int .i64 (k + (cn_Cts l : Nat)))], [(0, ⟨false, true, 3, cts (mk_Cts k l), 0⟩)], 2⟩) := by
  refine loop_ind (σ := Nat × (List Ct)) (fun x => l.length - x.1) _ (fun x => ⟨[(0, .ref 0 0 l.length), (1, .int .i64 (k + (cn_Cts (l.take x.1) : Nat))), (5, .int .i64 x.1)], [(0, ⟨false, true, 3, cts x.2, 0⟩)], 2⟩) _ ?_
  rintro ⟨i, r⟩ hi ih s hs
  simp only at hi
  refine loop_s cd117 rfl rfl hs ?_
  obtain ⟨hi1, hi2, hi3, hi4⟩ := hi
  have hlen := cn_Cts_len (l := l)
  refine wa_ (wa_ (wc_region (w_ (m_ (h := w_ (m_ (h := w_ (le (h := w_ (b_ (h := wo_nil (e_ (h := aft_normal (?_))))))))))))))
  refine c_ (h1 := ?_) (h2 := ?_)
  rotate_right 1
  focus
   intro c1
   simp at c1; obtain rfl : i = l.length := (by omega); obtain rfl : r = mk_Cts k l := (by rw [List.take_of_length_le (by omega), List.take_of_length_le (by simp)] at hi3; exact hi3)
   refine wc_exit (?_)
  rotate_right 1
  focus
   intro c1
   simp at c1; have hw := wrap_succ (i := i) (by omega); obtain ⟨y, hx, _, _⟩ := cts_cut (l := l) (i := i) c1; have hy : r[i]? = some y := (by have := congrArg (fun q => q[0]?) hi4; simpa [hx] using this); have g2 : (cts r)[i]? = some (Ct.v (y)) := (by simp [cts, hy]); have hcut := wS_cut (f := cn_Ct) hx; have hle := wS_take (f := cn_Ct) (l := l) (i := i + 1); have hcy : cn_Ct y = 1 + 1 + 1 := rfl; change cn_Cts (l.take (i + 1)) = cn_Cts (l.take i) + cn_Ct y at hcut; change cn_Cts (l.take (i + 1)) ≤ cn_Cts l at hle; have hw0 : IntKind.i64.wrap (k + (cn_Cts (l.take i) : Nat) + 1) = k + (cn_Cts (l.take i) : Nat) + 1 := wrap_id (by omega) (by omega); have hw1 : IntKind.i64.wrap (k + (cn_Cts (l.take i) : Nat) + 1 + 1) = k + (cn_Cts (l.take i) : Nat) + 1 + 1 := wrap_id (by omega) (by omega); have hw2 : IntKind.i64.wrap (k + (cn_Cts (l.take i) : Nat) + 1 + 1 + 1) = k + ((cn_Cts (l.take (i + 1)) : Nat) : Int) := (by rw [hcut]; exact (wrap_id (by omega) (by omega)).trans (by omega))
   refine wc_skip (?_)
  all_goals first
  | refine aft_exit ?_
  | (refine aft_normal ?_
     refine wa_ (wc_block (wa_ (wc_region (w_ (m_ (h := w_ (m_ (h := w_ (m_ (h := w_ (x_ (h := w_ (f_ (h := w0 (s_ (h := wo_nil (e_ (h := aft_normal (?_)))))))))))))))))))
     refine wa_ (wc_region (w_ (m_ (h := w_ (b_ (h := w_ (a_ (h := wo_nil (e_ (h := aft_normal (wa_ (wc_region (w_ (m_ (h := w_ (m_ (h := w_ (m_ (h := ?_)))))))))))))))))))
     refine w_ (x_ (h := w_ (f_ (h := w0 (s_ (h := wo_nil (e_ (h := aft_normal (wa_ (wc_region (w_ (m_ (h := w_ (b_ (h := w_ (a_ (h := wo_nil (e_ (h := aft_normal (?_))))))))))))))))))))
     refine wa_ (wc_region (w_ (m_ (h := w_ (m_ (h := w_ (m_ (h := w_ (x_ (h := w_ (f_ (h := w0 (s_ (h := wo_nil (e_ (h := aft_normal (wc_region (w_ (m_ (h := ?_))))))))))))))))))))
     refine w_ (b_ (h := w_ (a_ (h := wo_nil (e_ (h := blk_normal (aft_normal (wc_region (w_ (m_ (h := w_ (b_ (h := w_ (a_ (h := wo_nil (e_ (h := ?_)))))))))))))))))
     )
  all_goals first
  | (refine (ih ((i + 1, r.set i (mk_Ct (k + (cn_Cts (l.take i) : Nat)) y))) (⟨by simp; omega, by simpa using hi2, set_take hi3 (by simpa using hi2) (mk_Cts_at hx), set_drop hi4⟩) ?_ _ ?_).trans ?_; (focus (first | omega | (simp; done) | (simp; omega))); (focus (simp [normE, hw, hw0, hw1, hw2, mk_Ct]; done)); (focus (rfl)))
  | (apply end_leaf (ex := (Ext.exit 0)) 2 (some [1]); (focus (simp [normE]; rfl)); (focus (simp)))
theorem mkf_Cts (k : Int) (l : List Ct) (hk : 0 ≤ k) (hb : k + (cn_Cts l : Nat) < 1000000000000000000) : oc.call 117 [.iol 3 (cts l), .int .i64 k] = some (.int .i64 (k + (cn_Cts l : Nat)), [.lst true 3 (cts (mk_Cts k l))]) := by
  refine fun_s rfl cd117 rfl rfl rfl (by simp; rfl) (by simp; rfl) ?_
  refine wa_ (wc_region (w_ (a_ (h := wo_nil (e_ (h := aft_normal (wa_ (wa_ (wc_region (w_ (a_ (h := wo_nil (e_ (h := aft_normal (wc_block (?_))))))))))))))))
  refine wc_loop (l_mk_Cts k l hk hb (0, l) (by simp) _ (by simp [normE, cn_Cts])) ?_
  refine blk_exit (aft_normal (wa_ (wc_region (w_ (m_ (h := w_ (a_ (h := wo_nil (e_ (h := aft_normal (wc_ret (?_))))))))))))
  all_goals (refine fin_ (hr := (res_tmp rfl res_nil)) (h := ?_); (focus (first | (simp_all; done) | (simp_all <;> omega) | (simp_all <;> split <;> simp_all <;> omega))))
theorem l_held_Cts (k : Int) (l : List Ct) (hk : 0 ≤ k) (hb : k + (cn_Cts l : Nat) < 1000000000000000000) : ∀ i : Nat, (i ≤ l.length) → ∀ s, normE 2 (some [0, 1, 5]) s = ⟨[(0, .lst false 0 (cts (mk_Cts k l))), (1, .int .i64 (k + (cn_Cts (l.take i) : Nat))), (5, .int .i64 i)], [], 2⟩ →
    oc.loop 118 2 s = some (.exit 0, ⟨[(1, .int .i64 (k + (cn_Cts l : Nat)))], [], 2⟩) := by
  refine loop_ind (σ := Nat) (fun i => l.length - i) _ (fun i => ⟨[(0, .lst false 0 (cts (mk_Cts k l))), (1, .int .i64 (k + (cn_Cts (l.take i) : Nat))), (5, .int .i64 i)], [], 2⟩) _ ?_
  intro i hi ih s hs
  refine loop_s cd118 rfl rfl hs ?_
  have hlen := cn_Cts_len (l := l)
  refine wa_ (wa_ (wc_region (w_ (m_ (h := w_ (m_ (h := w_ (le (h := w_ (b_ (h := wo_nil (e_ (h := aft_normal (?_))))))))))))))
  refine c_ (h1 := ?_) (h2 := ?_)
  rotate_right 1
  focus
   intro c1
   first
   | exact dn c1
   | (have d1 := c1; try simp at d1
      obtain rfl : i = l.length := (by omega)
      refine wc_exit (?_)
      )
  rotate_right 1
  focus
   intro c1
   first
   | exact dn c1
   | (have d1 := c1; try simp at d1
      have hc1 : i < l.length := (by simpa using d1); have hw := wrap_succ (i := i) (by omega); obtain ⟨y, hx, _, _⟩ := cts_cut (l := l) (i := i) hc1; have g2 : (cts (mk_Cts k l))[i]? = some (Ct.v (mk_Ct (k + (cn_Cts (l.take i) : Nat)) y)) := (by simp [cts, mk_Cts_at hx]); have hcut := wS_cut (f := cn_Ct) hx; have hle := wS_take (f := cn_Ct) (l := l) (i := i + 1); have hcy : cn_Ct y = 1 + 1 + 1 := rfl; change cn_Cts (l.take (i + 1)) = cn_Cts (l.take i) + cn_Ct y at hcut; change cn_Cts (l.take (i + 1)) ≤ cn_Cts l at hle; have hw0 : IntKind.i64.wrap (k + (cn_Cts (l.take i) : Nat) + 1) = k + (cn_Cts (l.take i) : Nat) + 1 := wrap_id (by omega) (by omega); have hw1 : IntKind.i64.wrap (k + (cn_Cts (l.take i) : Nat) + 1 + 1) = k + (cn_Cts (l.take i) : Nat) + 1 + 1 := wrap_id (by omega) (by omega); have hw2 : IntKind.i64.wrap (k + (cn_Cts (l.take i) : Nat) + 1 + 1 + 1) = k + ((cn_Cts (l.take (i + 1)) : Nat) : Int) := (by rw [hcut]; exact (wrap_id (by omega) (by omega)).trans (by omega))
      refine wc_skip (?_)
      )
  all_goals first
  | refine aft_exit ?_
  | (refine aft_normal ?_
     refine wa_ (wc_block (wa_ (wa_ (wc_region (w_ (m_ (h := w_ (m_ (h := w_ (x_ (h := w_ (f_ (h := w_ (l_ (h := w_ (m_ (h := w_ (bE (h := ?_)))))))))))))))))))
     refine wo_nil (e_ (h := aft_normal (?_)))
     refine c_ (h1 := ?_) (h2 := ?_)
     rotate_right 1
     focus
      intro c2
      first
      | exact dn c2
      | (have d2 := c2; try simp at d2
         refine wc_skip (?_)
         )
     rotate_right 1
     focus
      intro c2
      first
      | exact dn c2
      | (have d2 := c2; try simp at d2
         refine wa_ (wc_region (w_ (a_ (h := wo_nil (e_ (h := aft_normal (wc_ret (?_))))))))
         )
     all_goals first
     | refine aft_ret ?_
     | (refine aft_normal ?_
        refine wa_ (wc_region (w_ (m_ (h := w_ (b_ (h := w_ (a_ (h := wo_nil (e_ (h := aft_normal (wa_ (wa_ (wc_region (w_ (m_ (h := w_ (m_ (h := ?_))))))))))))))))))
        refine w_ (x_ (h := w_ (f_ (h := w_ (l_ (h := w_ (m_ (h := w_ (bE (h := wo_nil (e_ (h := aft_normal (?_)))))))))))))
        refine c_ (h1 := ?_) (h2 := ?_)
        rotate_right 1
        focus
         intro c3
         first
         | exact dn c3
         | (have d3 := c3; try simp at d3
            refine wc_skip (?_)
            )
        rotate_right 1
        focus
         intro c3
         first
         | exact dn c3
         | (have d3 := c3; try simp at d3
            refine wa_ (wc_region (w_ (a_ (h := wo_nil (e_ (h := aft_normal (wc_ret (?_))))))))
            )
        all_goals first
        | refine aft_ret ?_
        | (refine aft_normal ?_
           refine wa_ (wc_region (w_ (m_ (h := w_ (b_ (h := w_ (a_ (h := wo_nil (e_ (h := aft_normal (wa_ (wa_ (wc_region (w_ (m_ (h := w_ (m_ (h := ?_))))))))))))))))))
           refine w_ (x_ (h := w_ (f_ (h := w_ (l_ (h := w_ (m_ (h := w_ (bE (h := wo_nil (e_ (h := aft_normal (?_)))))))))))))
           refine c_ (h1 := ?_) (h2 := ?_)
           rotate_right 1
           focus
            intro c4
            first
            | exact dn c4
            | (have d4 := c4; try simp at d4
               refine wc_skip (?_)
               )
           rotate_right 1
           focus
            intro c4
            first
            | exact dn c4
            | (have d4 := c4; try simp at d4
               refine wa_ (wc_region (w_ (a_ (h := wo_nil (e_ (h := aft_normal (wc_ret (?_))))))))
               )
           all_goals first
           | refine aft_ret ?_
           | (refine aft_normal ?_
              refine wc_region (w_ (m_ (h := w_ (b_ (h := w_ (a_ (h := wo_nil (e_ (h := ?_)))))))))
              )
           )
        )
     all_goals first | refine blk_normal ?_ | refine blk_ret ?_
     all_goals first
     | refine aft_ret ?_
     | (refine aft_normal ?_
        refine wc_region (w_ (m_ (h := w_ (b_ (h := w_ (a_ (h := wo_nil (e_ (h := ?_)))))))))
        )
     )
  all_goals first
  | (refine (ih (i + 1) (by omega) ?_ _ ?_).trans ?_; (focus (first | omega | (simp; done) | (simp; omega))); (focus (simp [normE, hw, hw0, hw1, hw2]; done)); (focus (rfl)))
  | (apply end_leaf (ex := (Ext.exit 0)) 2 (some [1, 4]); (focus (simp [normE]; rfl)); (focus (simp)))
  | (apply end_leaf (ex := Ext.ret) 2 (some [1, 4]); (focus (simp [normE]; rfl)); (focus (exfalso; clear ih hs hw; simp only [hw0, hw1] at *; simp at *)))
theorem held_Cts (k : Int) (l : List Ct) (hk : 0 ≤ k) (hb : k + (cn_Cts l : Nat) < 1000000000000000000) : oc.call 118 [.lst false 0 (cts (mk_Cts k l)), .int .i64 k] = some (.int .i64 (k + (cn_Cts l : Nat)), []) := by
  refine fun_s rfl cd118 rfl rfl rfl (by simp; rfl) (by simp; rfl) ?_
  refine wa_ (wc_region (w_ (a_ (h := wo_nil (e_ (h := aft_normal (wa_ (wa_ (wc_region (w_ (a_ (h := wo_nil (e_ (h := aft_normal (wc_block (?_))))))))))))))))
  refine wc_loop (l_held_Cts k l hk hb 0 (by omega) _ (by simp [normE, cn_Cts])) ?_
  first | refine blk_ret ?_ | refine blk_exit ?_
  all_goals first
  | refine aft_ret ?_
  | (refine aft_normal ?_
     refine wa_ (wc_region (w_ (m_ (h := w_ (a_ (h := wo_nil (e_ (h := aft_normal (wc_ret (?_))))))))))
     )
  all_goals (refine fin_ (hr := (res_tmp rfl res_nil)) (h := ?_); (focus (first | (simp_all; done) | (simp_all <;> omega) | (simp_all <;> split <;> simp_all <;> omega))))
def cn_Nd (x : Nd) : Nat := 1 + 1 + 1 + 1 + 1 + 1 + x.cells.length
theorem cn_Nd_pos (x : Nd) : 1 ≤ cn_Nd x := by unfold cn_Nd; omega
def cn_Nds (l : List Nd) : Nat := wS cn_Nd l
theorem cn_Nds_len {l : List Nd} : l.length ≤ cn_Nds l := wS_len cn_Nd_pos
def mk_Nd (k : Int) (x : Nd) : Nd := ⟨k, k + 1, k + 1 + 1, k + 1 + 1 + 1, k + 1 + 1 + 1 + 1, k + 1 + 1 + 1 + 1 + 1, mkI (k + 1 + 1 + 1 + 1 + 1 + 1) x.cells.length⟩
@[simp] theorem mk_Nd_op (k : Int) (x : Nd) : (mk_Nd k x).op = k := rfl
@[simp] theorem mk_Nd_a (k : Int) (x : Nd) : (mk_Nd k x).a = k + 1 := rfl
@[simp] theorem mk_Nd_b (k : Int) (x : Nd) : (mk_Nd k x).b = k + 1 + 1 := rfl
@[simp] theorem mk_Nd_col (k : Int) (x : Nd) : (mk_Nd k x).col = k + 1 + 1 + 1 := rfl
@[simp] theorem mk_Nd_test (k : Int) (x : Nd) : (mk_Nd k x).test = k + 1 + 1 + 1 + 1 := rfl
@[simp] theorem mk_Nd_value (k : Int) (x : Nd) : (mk_Nd k x).value = k + 1 + 1 + 1 + 1 + 1 := rfl
@[simp] theorem mk_Nd_cells (k : Int) (x : Nd) : (mk_Nd k x).cells = mkI (k + 1 + 1 + 1 + 1 + 1 + 1) x.cells.length := rfl
def mk_Nds (k : Int) : List Nd → List Nd
  | [] => []
  | x :: r => mk_Nd k x :: mk_Nds (k + (cn_Nd x : Nat)) r
@[simp] theorem mk_Nds_len {k : Int} {l : List Nd} : (mk_Nds k l).length = l.length := by
  induction l generalizing k with
  | nil => rfl
  | cons x r ih => simp [mk_Nds, ih]
@[simp] theorem mk_Nds_take {k : Int} {l : List Nd} : (mk_Nds k l).take l.length = mk_Nds k l := List.take_of_length_le (by simp)
theorem mk_Nds_at {k : Int} {l : List Nd} {i : Nat} {x : Nd} (h : l[i]? = some x) : (mk_Nds k l)[i]? = some (mk_Nd (k + (cn_Nds (l.take i) : Nat)) x) := by
  induction l generalizing k i with
  | nil => simp at h
  | cons y r ih =>
    cases i with
    | zero => simp at h; subst h; simp [mk_Nds, cn_Nds]
    | succ i => simp at h; simp only [mk_Nds, List.getElem?_cons_succ, ih h, List.take_succ_cons, cn_Nds, wS_cons]; congr 2; push_cast; omega
@[simp] theorem alike_nds (t u : Bool) (s z : Nat) (a b : List Nd) : V.alikeL (nds t s a) (nds u z b) = decide (a.length = b.length) := alikeL_map (fun _ _ => rfl)
theorem l_mk_Nds (k : Int) (l : List Nd) (hk : 0 ≤ k) (hb : k + (cn_Nds l : Nat) < 1000000000000000000) : ∀ x : Nat × (List Nd), (x.1 ≤ l.length ∧ x.2.length = l.length ∧ x.2.take x.1 = (mk_Nds k l).take x.1 ∧ x.2.drop x.1 = l.drop x.1) → ∀ s, normE 2 (some [0, 1, 5]) s = ⟨[(0, .ref 0 0 l.length), (1, .int .i64 (k + (cn_Nds (l.take x.1) : Nat))), (5, .int .i64 x.1)], [(0, ⟨false, true, 7, nds true 1 x.2, 0⟩)], 2⟩ →
    oc.loop 48 2 s = some (.exit 0, ⟨[(1, .int .i64 (k + (cn_Nds l : Nat)))], [(0, ⟨false, true, 7, nds true 1 (mk_Nds k l), 0⟩)], 2⟩) := by
  refine loop_ind (σ := Nat × (List Nd)) (fun x => l.length - x.1) _ (fun x => ⟨[(0, .ref 0 0 l.length), (1, .int .i64 (k + (cn_Nds (l.take x.1) : Nat))), (5, .int .i64 x.1)], [(0, ⟨false, true, 7, nds true 1 x.2, 0⟩)], 2⟩) _ ?_
  rintro ⟨i, r⟩ hi ih s hs
  simp only at hi
  refine loop_s cd48 rfl rfl hs ?_
  obtain ⟨hi1, hi2, hi3, hi4⟩ := hi
  have hlen := cn_Nds_len (l := l)
  refine wa_ (wa_ (wc_region (w_ (m_ (h := w_ (m_ (h := w_ (le (h := w_ (b_ (h := wo_nil (e_ (h := aft_normal (?_))))))))))))))
  refine c_ (h1 := ?_) (h2 := ?_)
  rotate_right 1
  focus
   intro c1
   simp at c1; obtain rfl : i = l.length := (by omega); obtain rfl : r = mk_Nds k l := (by rw [List.take_of_length_le (by omega), List.take_of_length_le (by simp)] at hi3; exact hi3)
   refine wc_exit (?_)
  rotate_right 1
  focus
   intro c1
   simp at c1; have hw := wrap_succ (i := i) (by omega); obtain ⟨y, hx, _, _⟩ := nds_cut (t := false) (s := 0) (l := l) (i := i) c1; have hy : r[i]? = some y := (by have := congrArg (fun q => q[0]?) hi4; simpa [hx] using this); have g2 : (nds true 1 r)[i]? = some (Nd.v true 1 (y)) := (by simp [nds, hy]); have hcut := wS_cut (f := cn_Nd) hx; have hle := wS_take (f := cn_Nd) (l := l) (i := i + 1); have hcy : cn_Nd y = 1 + 1 + 1 + 1 + 1 + 1 + y.cells.length := rfl; change cn_Nds (l.take (i + 1)) = cn_Nds (l.take i) + cn_Nd y at hcut; change cn_Nds (l.take (i + 1)) ≤ cn_Nds l at hle; have hw0 : IntKind.i64.wrap (k + (cn_Nds (l.take i) : Nat) + 1) = k + (cn_Nds (l.take i) : Nat) + 1 := wrap_id (by omega) (by omega); have hw1 : IntKind.i64.wrap (k + (cn_Nds (l.take i) : Nat) + 1 + 1) = k + (cn_Nds (l.take i) : Nat) + 1 + 1 := wrap_id (by omega) (by omega); have hw2 : IntKind.i64.wrap (k + (cn_Nds (l.take i) : Nat) + 1 + 1 + 1) = k + (cn_Nds (l.take i) : Nat) + 1 + 1 + 1 := wrap_id (by omega) (by omega); have hw3 : IntKind.i64.wrap (k + (cn_Nds (l.take i) : Nat) + 1 + 1 + 1 + 1) = k + (cn_Nds (l.take i) : Nat) + 1 + 1 + 1 + 1 := wrap_id (by omega) (by omega); have hw4 : IntKind.i64.wrap (k + (cn_Nds (l.take i) : Nat) + 1 + 1 + 1 + 1 + 1) = k + (cn_Nds (l.take i) : Nat) + 1 + 1 + 1 + 1 + 1 := wrap_id (by omega) (by omega); have hw5 : IntKind.i64.wrap (k + (cn_Nds (l.take i) : Nat) + 1 + 1 + 1 + 1 + 1 + 1) = k + (cn_Nds (l.take i) : Nat) + 1 + 1 + 1 + 1 + 1 + 1 := wrap_id (by omega) (by omega); have hw6 : k + (cn_Nds (l.take i) : Nat) + 1 + 1 + 1 + 1 + 1 + 1 + (y.cells.length : Nat) = k + ((cn_Nds (l.take (i + 1)) : Nat) : Int) := (by rw [hcut]; omega)
   refine wc_skip (?_)
  all_goals first
  | refine aft_exit ?_
  | (refine aft_normal ?_
     refine wa_ (wc_block (wa_ (wc_region (w_ (m_ (h := w_ (m_ (h := w_ (m_ (h := w_ (x_ (h := w_ (f_ (h := w0 (s_ (h := wo_nil (e_ (h := aft_normal (?_)))))))))))))))))))
     refine wa_ (wc_region (w_ (m_ (h := w_ (b_ (h := w_ (a_ (h := wo_nil (e_ (h := aft_normal (wa_ (wc_region (w_ (m_ (h := w_ (m_ (h := w_ (m_ (h := ?_)))))))))))))))))))
     refine w_ (x_ (h := w_ (f_ (h := w0 (s_ (h := wo_nil (e_ (h := aft_normal (wa_ (wc_region (w_ (m_ (h := w_ (b_ (h := w_ (a_ (h := wo_nil (e_ (h := aft_normal (?_))))))))))))))))))))
     refine wa_ (wc_region (w_ (m_ (h := w_ (m_ (h := w_ (m_ (h := w_ (x_ (h := w_ (f_ (h := w0 (s_ (h := wo_nil (e_ (h := aft_normal (wa_ (wc_region (?_)))))))))))))))))))
     refine w_ (m_ (h := w_ (b_ (h := w_ (a_ (h := wo_nil (e_ (h := aft_normal (wa_ (wc_region (w_ (m_ (h := w_ (m_ (h := w_ (m_ (h := w_ (x_ (h := w_ (f_ (h := ?_)))))))))))))))))))))
     refine w0 (s_ (h := wo_nil (e_ (h := aft_normal (wa_ (wc_region (w_ (m_ (h := w_ (b_ (h := w_ (a_ (h := wo_nil (e_ (h := aft_normal (wa_ (wc_region (?_))))))))))))))))))
     refine w_ (m_ (h := w_ (m_ (h := w_ (m_ (h := w_ (x_ (h := w_ (f_ (h := w0 (s_ (h := wo_nil (e_ (h := aft_normal (wa_ (wc_region (w_ (m_ (h := w_ (b_ (h := ?_)))))))))))))))))))))
     refine w_ (a_ (h := wo_nil (e_ (h := aft_normal (wa_ (wc_region (w_ (m_ (h := w_ (m_ (h := w_ (m_ (h := w_ (x_ (h := w_ (f_ (h := w0 (s_ (h := wo_nil (e_ (h := ?_)))))))))))))))))))))
     refine aft_normal (wa_ (wc_region (w_ (m_ (h := w_ (b_ (h := w_ (a_ (h := wo_nil (e_ (h := aft_normal (wc_region (w_ (m_ (h := w_ (m_ (h := w_ (x_ (h := ?_)))))))))))))))))))
     refine w_ (f_ (h := w_ (l_ (h := w_ (m_ (h := ?_))))))
     first | refine ip (hc := (by (try simp only [hw0, hw1, hw2, hw3, hw4, hw5, hw6]); exact mk_I (k + (cn_Nds (l.take i) : Nat) + 1 + 1 + 1 + 1 + 1 + 1) y.cells (by omega) (by omega))) (h := ?_) | refine iq (hc := (by (try simp only [hw0, hw1, hw2, hw3, hw4, hw5, hw6]); exact mk_I (k + (cn_Nds (l.take i) : Nat) + 1 + 1 + 1 + 1 + 1 + 1) y.cells (by omega) (by omega))) (h := ?_)
     refine w_ (a_ (h := wo_nil (e_ (h := blk_normal (aft_normal (wc_region (w_ (m_ (h := w_ (b_ (h := w_ (a_ (h := wo_nil (e_ (h := ?_)))))))))))))))
     )
  all_goals first
  | (refine (ih ((i + 1, r.set i (mk_Nd (k + (cn_Nds (l.take i) : Nat)) y))) (⟨by simp; omega, by simpa using hi2, set_take hi3 (by simpa using hi2) (mk_Nds_at hx), set_drop hi4⟩) ?_ _ ?_).trans ?_; (focus (first | omega | (simp; done) | (simp; omega))); (focus (simp [normE, hw, hw0, hw1, hw2, hw3, hw4, hw5, hw6, mk_Nd]; done)); (focus (rfl)))
  | (apply end_leaf (ex := (Ext.exit 0)) 2 (some [1]); (focus (simp [normE]; rfl)); (focus (simp)))
theorem mkf_Nds (k : Int) (l : List Nd) (hk : 0 ≤ k) (hb : k + (cn_Nds l : Nat) < 1000000000000000000) : oc.call 48 [.iol 7 (nds true 1 l), .int .i64 k] = some (.int .i64 (k + (cn_Nds l : Nat)), [.lst true 7 (nds true 1 (mk_Nds k l))]) := by
  refine fun_s rfl cd48 rfl rfl rfl (by simp; rfl) (by simp; rfl) ?_
  refine wa_ (wc_region (w_ (a_ (h := wo_nil (e_ (h := aft_normal (wa_ (wa_ (wc_region (w_ (a_ (h := wo_nil (e_ (h := aft_normal (wc_block (?_))))))))))))))))
  refine wc_loop (l_mk_Nds k l hk hb (0, l) (by simp) _ (by simp [normE, cn_Nds])) ?_
  refine blk_exit (aft_normal (wa_ (wc_region (w_ (m_ (h := w_ (a_ (h := wo_nil (e_ (h := aft_normal (wc_ret (?_))))))))))))
  all_goals (refine fin_ (hr := (res_tmp rfl res_nil)) (h := ?_); (focus (first | (simp_all; done) | (simp_all <;> omega) | (simp_all <;> split <;> simp_all <;> omega))))
def cn_Et (x : Et) : Nat := x.row.length + 1
theorem cn_Et_pos (x : Et) : 1 ≤ cn_Et x := by unfold cn_Et; omega
def cn_Ets (l : List Et) : Nat := wS cn_Et l
theorem cn_Ets_len {l : List Et} : l.length ≤ cn_Ets l := wS_len cn_Et_pos
def mk_Et (k : Int) (x : Et) : Et := ⟨mkI (k) x.row.length, k + (x.row.length : Nat)⟩
@[simp] theorem mk_Et_row (k : Int) (x : Et) : (mk_Et k x).row = mkI (k) x.row.length := rfl
@[simp] theorem mk_Et_w (k : Int) (x : Et) : (mk_Et k x).w = k + (x.row.length : Nat) := rfl
def mk_Ets (k : Int) : List Et → List Et
  | [] => []
  | x :: r => mk_Et k x :: mk_Ets (k + (cn_Et x : Nat)) r
@[simp] theorem mk_Ets_len {k : Int} {l : List Et} : (mk_Ets k l).length = l.length := by
  induction l generalizing k with
  | nil => rfl
  | cons x r ih => simp [mk_Ets, ih]
@[simp] theorem mk_Ets_take {k : Int} {l : List Et} : (mk_Ets k l).take l.length = mk_Ets k l := List.take_of_length_le (by simp)
theorem mk_Ets_at {k : Int} {l : List Et} {i : Nat} {x : Et} (h : l[i]? = some x) : (mk_Ets k l)[i]? = some (mk_Et (k + (cn_Ets (l.take i) : Nat)) x) := by
  induction l generalizing k i with
  | nil => simp at h
  | cons y r ih =>
    cases i with
    | zero => simp at h; subst h; simp [mk_Ets, cn_Ets]
    | succ i => simp at h; simp only [mk_Ets, List.getElem?_cons_succ, ih h, List.take_succ_cons, cn_Ets, wS_cons]; congr 2; push_cast; omega
@[simp] theorem alike_ets (t u : Bool) (a b : List Et) : V.alikeL (ets t a) (ets u b) = decide (a.length = b.length) := alikeL_map (fun _ _ => rfl)
theorem l_mk_Ets (k : Int) (l : List Et) (hk : 0 ≤ k) (hb : k + (cn_Ets l : Nat) < 1000000000000000000) : ∀ x : Nat × (List Et), (x.1 ≤ l.length ∧ x.2.length = l.length ∧ x.2.take x.1 = (mk_Ets k l).take x.1 ∧ x.2.drop x.1 = l.drop x.1) → ∀ s, normE 2 (some [0, 1, 5]) s = ⟨[(0, .ref 0 0 l.length), (1, .int .i64 (k + (cn_Ets (l.take x.1) : Nat))), (5, .int .i64 x.1)], [(0, ⟨false, true, 2, ets true x.2, 0⟩)], 2⟩ →
    oc.loop 26 2 s = some (.exit 0, ⟨[(1, .int .i64 (k + (cn_Ets l : Nat)))], [(0, ⟨false, true, 2, ets true (mk_Ets k l), 0⟩)], 2⟩) := by
  refine loop_ind (σ := Nat × (List Et)) (fun x => l.length - x.1) _ (fun x => ⟨[(0, .ref 0 0 l.length), (1, .int .i64 (k + (cn_Ets (l.take x.1) : Nat))), (5, .int .i64 x.1)], [(0, ⟨false, true, 2, ets true x.2, 0⟩)], 2⟩) _ ?_
  rintro ⟨i, r⟩ hi ih s hs
  simp only at hi
  refine loop_s cd26 rfl rfl hs ?_
  obtain ⟨hi1, hi2, hi3, hi4⟩ := hi
  have hlen := cn_Ets_len (l := l)
  refine wa_ (wa_ (wc_region (w_ (m_ (h := w_ (m_ (h := w_ (le (h := w_ (b_ (h := wo_nil (e_ (h := aft_normal (?_))))))))))))))
  refine c_ (h1 := ?_) (h2 := ?_)
  rotate_right 1
  focus
   intro c1
   simp at c1; obtain rfl : i = l.length := (by omega); obtain rfl : r = mk_Ets k l := (by rw [List.take_of_length_le (by omega), List.take_of_length_le (by simp)] at hi3; exact hi3)
   refine wc_exit (?_)
  rotate_right 1
  focus
   intro c1
   simp at c1; have hw := wrap_succ (i := i) (by omega); obtain ⟨y, hx, _, _⟩ := ets_cut (t := false) (l := l) (i := i) c1; have hy : r[i]? = some y := (by have := congrArg (fun q => q[0]?) hi4; simpa [hx] using this); have g2 : (ets true r)[i]? = some (Et.v true (y)) := (by simp [ets, hy]); have hcut := wS_cut (f := cn_Et) hx; have hle := wS_take (f := cn_Et) (l := l) (i := i + 1); have hcy : cn_Et y = y.row.length + 1 := rfl; change cn_Ets (l.take (i + 1)) = cn_Ets (l.take i) + cn_Et y at hcut; change cn_Ets (l.take (i + 1)) ≤ cn_Ets l at hle; have hw1 : IntKind.i64.wrap (k + (cn_Ets (l.take i) : Nat) + (y.row.length : Nat) + 1) = k + ((cn_Ets (l.take (i + 1)) : Nat) : Int) := (by rw [hcut]; exact (wrap_id (by omega) (by omega)).trans (by omega))
   refine wc_skip (?_)
  all_goals first
  | refine aft_exit ?_
  | (refine aft_normal ?_
     refine wa_ (wc_block (wa_ (wc_region (w_ (m_ (h := w_ (m_ (h := w_ (x_ (h := w_ (f_ (h := w_ (l_ (h := w_ (m_ (h := ?_))))))))))))))))
     first | refine ip (hc := (by (try simp only [hw1]); exact mk_I (k + (cn_Ets (l.take i) : Nat)) y.row (by omega) (by omega))) (h := ?_) | refine iq (hc := (by (try simp only [hw1]); exact mk_I (k + (cn_Ets (l.take i) : Nat)) y.row (by omega) (by omega))) (h := ?_)
     refine w_ (a_ (h := wo_nil (e_ (h := aft_normal (wa_ (wc_region (w_ (m_ (h := w_ (m_ (h := w_ (m_ (h := w_ (x_ (h := w_ (f_ (h := w0 (s_ (h := wo_nil (e_ (h := ?_)))))))))))))))))))))
     refine aft_normal (wc_region (w_ (m_ (h := w_ (b_ (h := w_ (a_ (h := wo_nil (e_ (h := blk_normal (aft_normal (wc_region (w_ (m_ (h := w_ (b_ (h := w_ (a_ (h := ?_)))))))))))))))))))
     refine wo_nil (e_ (h := ?_))
     )
  all_goals first
  | (refine (ih ((i + 1, r.set i (mk_Et (k + (cn_Ets (l.take i) : Nat)) y))) (⟨by simp; omega, by simpa using hi2, set_take hi3 (by simpa using hi2) (mk_Ets_at hx), set_drop hi4⟩) ?_ _ ?_).trans ?_; (focus (first | omega | (simp; done) | (simp; omega))); (focus (simp [normE, hw, hw1, mk_Et]; done)); (focus (rfl)))
  | (apply end_leaf (ex := (Ext.exit 0)) 2 (some [1]); (focus (simp [normE]; rfl)); (focus (simp)))
theorem mkf_Ets (k : Int) (l : List Et) (hk : 0 ≤ k) (hb : k + (cn_Ets l : Nat) < 1000000000000000000) : oc.call 26 [.iol 2 (ets true l), .int .i64 k] = some (.int .i64 (k + (cn_Ets l : Nat)), [.lst true 2 (ets true (mk_Ets k l))]) := by
  refine fun_s rfl cd26 rfl rfl rfl (by simp; rfl) (by simp; rfl) ?_
  refine wa_ (wc_region (w_ (a_ (h := wo_nil (e_ (h := aft_normal (wa_ (wa_ (wc_region (w_ (a_ (h := wo_nil (e_ (h := aft_normal (wc_block (?_))))))))))))))))
  refine wc_loop (l_mk_Ets k l hk hb (0, l) (by simp) _ (by simp [normE, cn_Ets])) ?_
  refine blk_exit (aft_normal (wa_ (wc_region (w_ (m_ (h := w_ (a_ (h := wo_nil (e_ (h := aft_normal (wc_ret (?_))))))))))))
  all_goals (refine fin_ (hr := (res_tmp rfl res_nil)) (h := ?_); (focus (first | (simp_all; done) | (simp_all <;> omega) | (simp_all <;> split <;> simp_all <;> omega))))
theorem l_held_Ets (k : Int) (l : List Et) (hk : 0 ≤ k) (hb : k + (cn_Ets l : Nat) < 1000000000000000000) : ∀ i : Nat, (i ≤ l.length) → ∀ s, normE 2 (some [0, 1, 5]) s = ⟨[(0, .lst false 0 (ets false (mk_Ets k l))), (1, .int .i64 (k + (cn_Ets (l.take i) : Nat))), (5, .int .i64 i)], [], 2⟩ →
    oc.loop 123 2 s = some (.exit 0, ⟨[(1, .int .i64 (k + (cn_Ets l : Nat)))], [], 2⟩) := by
  refine loop_ind (σ := Nat) (fun i => l.length - i) _ (fun i => ⟨[(0, .lst false 0 (ets false (mk_Ets k l))), (1, .int .i64 (k + (cn_Ets (l.take i) : Nat))), (5, .int .i64 i)], [], 2⟩) _ ?_
  intro i hi ih s hs
  refine loop_s cd123 rfl rfl hs ?_
  have hlen := cn_Ets_len (l := l)
  refine wa_ (wa_ (wc_region (w_ (m_ (h := w_ (m_ (h := w_ (le (h := w_ (b_ (h := wo_nil (e_ (h := aft_normal (?_))))))))))))))
  refine c_ (h1 := ?_) (h2 := ?_)
  rotate_right 1
  focus
   intro c1
   first
   | exact dn c1
   | (have d1 := c1; try simp at d1
      obtain rfl : i = l.length := (by omega)
      refine wc_exit (?_)
      )
  rotate_right 1
  focus
   intro c1
   first
   | exact dn c1
   | (have d1 := c1; try simp at d1
      have hc1 : i < l.length := (by simpa using d1); have hw := wrap_succ (i := i) (by omega); obtain ⟨y, hx, _, _⟩ := ets_cut (t := false) (l := l) (i := i) hc1; have g2 : (ets false (mk_Ets k l))[i]? = some (Et.v false (mk_Et (k + (cn_Ets (l.take i) : Nat)) y)) := (by simp [ets, mk_Ets_at hx]); have hcut := wS_cut (f := cn_Et) hx; have hle := wS_take (f := cn_Et) (l := l) (i := i + 1); have hcy : cn_Et y = y.row.length + 1 := rfl; change cn_Ets (l.take (i + 1)) = cn_Ets (l.take i) + cn_Et y at hcut; change cn_Ets (l.take (i + 1)) ≤ cn_Ets l at hle; have hw1 : IntKind.i64.wrap (k + (cn_Ets (l.take i) : Nat) + (y.row.length : Nat) + 1) = k + ((cn_Ets (l.take (i + 1)) : Nat) : Int) := (by rw [hcut]; exact (wrap_id (by omega) (by omega)).trans (by omega))
      refine wc_skip (?_)
      )
  all_goals first
  | refine aft_exit ?_
  | (refine aft_normal ?_
     refine wa_ (wc_block (wa_ (wc_region (w_ (m_ (h := w_ (m_ (h := w_ (x_ (h := w_ (f_ (h := w_ (l_ (h := w_ (m_ (h := w_ (ca (hc := (by (try simp only [hw1]); exact held_I (k + (cn_Ets (l.take i) : Nat)) y.row.length (by omega) (by omega))) (h := w_ (a_ (h := ?_))))))))))))))))))))
     refine wo_nil (e_ (h := aft_normal (wa_ (wa_ (wc_region (w_ (m_ (h := w_ (b_ (h := wo_nil (e_ (h := aft_normal (?_)))))))))))))
     refine c_ (h1 := ?_) (h2 := ?_)
     rotate_right 1
     focus
      intro c2
      first
      | exact dn c2
      | (have d2 := c2; try simp at d2
         refine wc_skip (?_)
         )
     rotate_right 1
     focus
      intro c2
      first
      | exact dn c2
      | (have d2 := c2; try simp at d2
         refine wa_ (wc_region (w_ (a_ (h := wo_nil (e_ (h := aft_normal (wc_ret (?_))))))))
         )
     all_goals first
     | refine aft_ret ?_
     | (refine aft_normal ?_
        refine wa_ (wa_ (wc_region (w_ (m_ (h := w_ (m_ (h := w_ (x_ (h := w_ (f_ (h := w_ (l_ (h := w_ (m_ (h := w_ (bE (h := wo_nil (e_ (h := aft_normal (?_))))))))))))))))))))
        refine c_ (h1 := ?_) (h2 := ?_)
        rotate_right 1
        focus
         intro c3
         first
         | exact dn c3
         | (have d3 := c3; try simp at d3
            refine wc_skip (?_)
            )
        rotate_right 1
        focus
         intro c3
         first
         | exact dn c3
         | (have d3 := c3; try simp at d3
            refine wa_ (wc_region (w_ (a_ (h := wo_nil (e_ (h := aft_normal (wc_ret (?_))))))))
            )
        all_goals first
        | refine aft_ret ?_
        | (refine aft_normal ?_
           refine wc_region (w_ (m_ (h := w_ (b_ (h := w_ (a_ (h := wo_nil (e_ (h := ?_)))))))))
           )
        )
     all_goals first | refine blk_normal ?_ | refine blk_ret ?_
     all_goals first
     | refine aft_ret ?_
     | (refine aft_normal ?_
        refine wc_region (w_ (m_ (h := w_ (b_ (h := w_ (a_ (h := wo_nil (e_ (h := ?_)))))))))
        )
     )
  all_goals first
  | (refine (ih (i + 1) (by omega) ?_ _ ?_).trans ?_; (focus (first | omega | (simp; done) | (simp; omega))); (focus (simp [normE, hw, hw1]; done)); (focus (rfl)))
  | (apply end_leaf (ex := (Ext.exit 0)) 2 (some [1, 4]); (focus (simp [normE]; rfl)); (focus (simp)))
  | (apply end_leaf (ex := Ext.ret) 2 (some [1, 4]); (focus (simp [normE]; rfl)); (focus (exfalso; omega)))
theorem held_Ets (k : Int) (l : List Et) (hk : 0 ≤ k) (hb : k + (cn_Ets l : Nat) < 1000000000000000000) : oc.call 123 [.lst false 0 (ets false (mk_Ets k l)), .int .i64 k] = some (.int .i64 (k + (cn_Ets l : Nat)), []) := by
  refine fun_s rfl cd123 rfl rfl rfl (by simp; rfl) (by simp; rfl) ?_
  refine wa_ (wc_region (w_ (a_ (h := wo_nil (e_ (h := aft_normal (wa_ (wa_ (wc_region (w_ (a_ (h := wo_nil (e_ (h := aft_normal (wc_block (?_))))))))))))))))
  refine wc_loop (l_held_Ets k l hk hb 0 (by omega) _ (by simp [normE, cn_Ets])) ?_
  first | refine blk_ret ?_ | refine blk_exit ?_
  all_goals first
  | refine aft_ret ?_
  | (refine aft_normal ?_
     refine wa_ (wc_region (w_ (m_ (h := w_ (a_ (h := wo_nil (e_ (h := aft_normal (wc_ret (?_))))))))))
     )
  all_goals (refine fin_ (hr := (res_tmp rfl res_nil)) (h := ?_); (focus (first | (simp_all; done) | (simp_all <;> omega) | (simp_all <;> split <;> simp_all <;> omega))))
end Go.Proofs.Ytmednhpmcplplaa.Ev
namespace Go.Proofs.Ytmednhpmcplplaa.Ev
open Go
set_option maxRecDepth 100000
set_option linter.unusedSimpArgs false
set_option linter.unusedVariables false
set_option maxHeartbeats 2000000
def nodesR (op : Int) : Nat → List Nd → List Int
  | _, [] => []
  | i, d :: r => if d.op = op then (i : Int) :: nodesR op (i + 1) r else nodesR op (i + 1) r
theorem nodesR_len {op : Int} : ∀ {l : List Nd} {i : Nat}, (nodesR op i l).length ≤ l.length
  | [], i => by simp [nodesR]
  | d :: r, i => by
    have := nodesR_len (op := op) (l := r) (i := i + 1)
    unfold nodesR
    split <;> simp <;> omega
theorem nodesR_mem {op : Int} : ∀ {l : List Nd} {i : Nat} {x : Int}, x ∈ nodesR op i l → 0 ≤ x ∧ x < i + l.length
  | [], i, x, h => by simp [nodesR] at h
  | d :: r, i, x, h => by
    unfold nodesR at h
    split at h
    · rcases List.mem_cons.1 h with rfl | h
      · simp; omega
      · have := nodesR_mem h; simp; omega
    · have := nodesR_mem h; simp; omega
theorem l_nodesI (pl : List Nd) (op : Int) (hp : pl.length < 2000000) : ∀ x : Nat × (List Int), (x.1 ≤ pl.length ∧ x.2.length ≤ x.1) → ∀ s, normE 2 (some [1, 5, 9, 10, 11]) s = ⟨[(1, .int .i64 op), (5, .ref 2 0 x.2.length), (9, .lst false 0 (nds false 0 pl)), (10, .int .i64 pl.length), (11, .int .i64 x.1)], [(2, ⟨false, false, 1, ints x.2, 0⟩)], 3⟩ →
    oc.loop 168 3 s = some (.exit 0, ⟨[(5, .ref 2 0 (x.2 ++ nodesR op x.1 (pl.drop x.1)).length)], [(2, ⟨false, false, 1, ints (x.2 ++ nodesR op x.1 (pl.drop x.1)), 0⟩)], 3⟩) := by
  refine loop_ind (σ := Nat × (List Int)) (fun x => pl.length - x.1) _ (fun x => ⟨[(1, .int .i64 op), (5, .ref 2 0 x.2.length), (9, .lst false 0 (nds false 0 pl)), (10, .int .i64 pl.length), (11, .int .i64 x.1)], [(2, ⟨false, false, 1, ints x.2, 0⟩)], 3⟩) _ ?_
  rintro ⟨i, out⟩ hi ih s hs
  simp only at hi
  refine loop_s cd168 rfl rfl hs ?_
  obtain ⟨hi, ho⟩ := hi
  refine wa_ (wc_region (w_ (b_ (h := wo_nil (e_ (h := aft_normal (wa_ (?_))))))))
  refine c_ (h1 := ?_) (h2 := ?_)
  rotate_right 1
  focus
   intro c1
   first
   | exact dn c1
   | (have d1 := c1; try simp at d1
      refine wc_exit (?_)
      )
  rotate_right 1
  focus
   intro c1
   first
   | exact dn c1
   | (have d1 := c1; try simp at d1
      have hw := wrap_succ (i := i) (by omega); obtain ⟨d, hx, e1, g1⟩ := nds_cut (t := false) (s := 0) (l := pl) (i := i) (by omega)
      refine wc_skip (?_)
      )
  all_goals first
  | refine aft_exit ?_
  | (refine aft_normal ?_
     refine wa_ (wc_block (wa_ (wc_region (w_ (m_ (h := w_ (x_ (h := w_ (l_ (h := w_ (al (h := w_ (a_ (h := w0 (s_ (h := wo_nil (e_ (h := aft_normal (?_)))))))))))))))))))
     refine wa_ (wc_region (w_ (f_ (h := w_ (l_ (h := w_ (m_ (h := w_ (bE (h := wo_nil (e_ (h := aft_normal (?_)))))))))))))
     refine c_ (h1 := ?_) (h2 := ?_)
     rotate_right 1
     focus
      intro c2
      first
      | exact dn c2
      | (have d2 := c2; try simp at d2
         refine wc_skip (?_)
         )
     rotate_right 1
     focus
      intro c2
      first
      | exact dn c2
      | (have d2 := c2; try simp at d2
         refine wc_region (w_ (m_ (h := w_ (m_ (h := w_ (bs (h := w_ (ap (h := w_ (a_ (h := wo_nil (e_ (h := ?_)))))))))))))
         )
     all_goals refine blk_normal ?_
     all_goals first
     | (refine aft_normal ?_
        refine wc_region (w_ (b_ (h := w_ (m_ (h := wo_nil (e_ (h := ?_)))))))
        )
     )
  all_goals first
  | (refine (ih ((i + 1, out ++ [(i : Int)])) (⟨by simp; omega, by simp; omega⟩) ?_ _ ?_).trans ?_; (focus (first | omega | (simp; done) | (simp; omega))); (focus (simp [normE, hw]; done)); (focus (rw [e1, nodesR, if_pos (by simpa using d2)]; simp)))
  | (refine (ih ((i + 1, out)) (⟨by simp; omega, by simp; omega⟩) ?_ _ ?_).trans ?_; (focus (first | omega | (simp; done) | (simp; omega))); (focus (simp [normE, hw]; done)); (focus (rw [e1, nodesR, if_neg (by simpa using d2)])))
  | (apply end_leaf (ex := (Ext.exit 0)) 2 (some [5]); (focus (simp [normE]; rfl)); (focus (rw [List.drop_eq_nil_of_le (by omega)]; simp [nodesR])))
theorem e_nodesI (pl : List Nd) (op : Int) (hp : pl.length < 2000000) : oc.call 168 [.lst false 0 (nds false 0 pl), .int .i64 op] = some (.lst true 1 (ints (nodesR op 0 pl)), []) := by
  refine fun_s rfl cd168 rfl rfl rfl (by simp; rfl) (by simp; rfl) ?_
  refine wa_ (wc_region (w_ (aN (h := wo_nil (e_ (h := aft_normal (wa_ (wc_region (w_ (bs (h := w_ (a_ (h := wo_nil (e_ (h := aft_normal (wa_ (?_)))))))))))))))))
  refine wa_ (wc_region (w_ (m_ (h := w_ (le (h := w_ (m_ (h := wo_nil (e_ (h := aft_normal (wc_block (?_))))))))))))
  refine wc_loop (l_nodesI pl op hp (0, []) (by simp) _ (by simp [normE])) ?_
  refine blk_exit (aft_normal (wa_ (wc_region (w_ (m_ (h := w_ (a_ (h := wo_nil (e_ (h := aft_normal (wc_ret (?_))))))))))))
  all_goals (refine fin_ (hr := (res_tmp rfl res_nil)) (h := ?_); (focus (first | (simp_all; done) | (simp_all <;> omega) | (simp_all <;> split <;> simp_all <;> omega))))
theorem l_nodesS (pl : List Nd) (op : Int) (hp : pl.length < 2000000) : ∀ x : Nat × (List Int), (x.1 ≤ pl.length ∧ x.2.length ≤ x.1) → ∀ s, normE 2 (some [0, 1, 5, 6]) s = ⟨[(0, .lst false 0 (nds false 0 pl)), (1, .int .i64 op), (5, .ref 2 0 x.2.length), (6, .int .i64 x.1)], [(2, ⟨false, false, 1, ints x.2, 0⟩)], 3⟩ →
    oc.loop 167 3 s = some (.exit 0, ⟨[(5, .ref 2 0 (x.2 ++ nodesR op x.1 (pl.drop x.1)).length)], [(2, ⟨false, false, 1, ints (x.2 ++ nodesR op x.1 (pl.drop x.1)), 0⟩)], 3⟩) := by
  refine loop_ind (σ := Nat × (List Int)) (fun x => pl.length - x.1) _ (fun x => ⟨[(0, .lst false 0 (nds false 0 pl)), (1, .int .i64 op), (5, .ref 2 0 x.2.length), (6, .int .i64 x.1)], [(2, ⟨false, false, 1, ints x.2, 0⟩)], 3⟩) _ ?_
  rintro ⟨i, out⟩ hi ih s hs
  simp only at hi
  refine loop_s cd167 rfl rfl hs ?_
  obtain ⟨hi, ho⟩ := hi
  refine wa_ (wa_ (wc_region (w_ (m_ (h := w_ (m_ (h := w_ (le (h := w_ (b_ (h := wo_nil (e_ (h := aft_normal (?_))))))))))))))
  refine c_ (h1 := ?_) (h2 := ?_)
  rotate_right 1
  focus
   intro c1
   first
   | exact dn c1
   | (have d1 := c1; try simp at d1
      refine wc_exit (?_)
      )
  rotate_right 1
  focus
   intro c1
   first
   | exact dn c1
   | (have d1 := c1; try simp at d1
      have hw := wrap_succ (i := i) (by omega); obtain ⟨d, hx, e1, g1⟩ := nds_cut (t := false) (s := 0) (l := pl) (i := i) (by omega)
      refine wc_skip (?_)
      )
  all_goals first
  | refine aft_exit ?_
  | (refine aft_normal ?_
     refine wa_ (wc_block (wa_ (wc_region (w_ (m_ (h := w_ (m_ (h := w_ (x_ (h := w_ (f_ (h := w_ (l_ (h := w_ (m_ (h := w_ (bE (h := wo_nil (e_ (h := ?_))))))))))))))))))))
     refine aft_normal (?_)
     refine c_ (h1 := ?_) (h2 := ?_)
     rotate_right 1
     focus
      intro c2
      first
      | exact dn c2
      | (have d2 := c2; try simp at d2
         refine wc_skip (?_)
         )
     rotate_right 1
     focus
      intro c2
      first
      | exact dn c2
      | (have d2 := c2; try simp at d2
         refine wc_region (w_ (m_ (h := w_ (m_ (h := w_ (bs (h := w_ (ap (h := w_ (a_ (h := wo_nil (e_ (h := ?_)))))))))))))
         )
     all_goals refine blk_normal ?_
     all_goals first
     | (refine aft_normal ?_
        refine wc_region (w_ (m_ (h := w_ (b_ (h := w_ (a_ (h := wo_nil (e_ (h := ?_)))))))))
        )
     )
  all_goals first
  | (refine (ih ((i + 1, out ++ [(i : Int)])) (⟨by simp; omega, by simp; omega⟩) ?_ _ ?_).trans ?_; (focus (first | omega | (simp; done) | (simp; omega))); (focus (simp [normE, hw]; done)); (focus (rw [e1, nodesR, if_pos (by simpa using d2)]; simp)))
  | (refine (ih ((i + 1, out)) (⟨by simp; omega, by simp; omega⟩) ?_ _ ?_).trans ?_; (focus (first | omega | (simp; done) | (simp; omega))); (focus (simp [normE, hw]; done)); (focus (rw [e1, nodesR, if_neg (by simpa using d2)])))
  | (apply end_leaf (ex := (Ext.exit 0)) 2 (some [5]); (focus (simp [normE]; rfl)); (focus (rw [List.drop_eq_nil_of_le (by omega)]; simp [nodesR])))
theorem e_nodesS (pl : List Nd) (op : Int) (hp : pl.length < 2000000) : oc.call 167 [.lst false 0 (nds false 0 pl), .int .i64 op] = some (.lst true 1 (ints (nodesR op 0 pl)), []) := by
  refine fun_s rfl cd167 rfl rfl rfl (by simp; rfl) (by simp; rfl) ?_
  refine wa_ (wc_region (w_ (aN (h := wo_nil (e_ (h := aft_normal (wa_ (wc_region (w_ (bs (h := w_ (a_ (h := wo_nil (e_ (h := aft_normal (wa_ (?_)))))))))))))))))
  refine wa_ (wc_region (w_ (a_ (h := wo_nil (e_ (h := aft_normal (wc_block (?_))))))))
  refine wc_loop (l_nodesS pl op hp (0, []) (by simp) _ (by simp [normE])) ?_
  refine blk_exit (aft_normal (wa_ (wc_region (w_ (m_ (h := w_ (a_ (h := wo_nil (e_ (h := aft_normal (wc_ret (?_))))))))))))
  all_goals (refine fin_ (hr := (res_tmp rfl res_nil)) (h := ?_); (focus (first | (simp_all; done) | (simp_all <;> omega) | (simp_all <;> split <;> simp_all <;> omega))))
def firstC (w x : Int) : Ct := ⟨2 * x + 1, 0, w⟩
theorem l_firstI (ns : List Int) (w : Int) (hl : ns.length < 2000000) (hm : ∀ x ∈ ns, 0 ≤ x ∧ x < 2000000) : ∀ x : Nat × (List Ct), (x.1 ≤ ns.length ∧ x.2.length ≤ x.1) → ∀ s, normE 2 (some [1, 5, 10, 11, 12]) s = ⟨[(1, .int .i64 w), (5, .ref 2 0 x.2.length), (10, .ref 3 0 ns.length), (11, .int .i64 ns.length), (12, .int .i64 x.1)], [(2, ⟨false, false, 3, cts x.2, 0⟩), (3, ⟨false, false, 1, ints ns, 0⟩)], 4⟩ →
    oc.loop 116 3 s = some (.exit 0, ⟨[(5, .ref 2 0 (x.2 ++ (ns.drop x.1).map (firstC w)).length)], [(2, ⟨false, false, 3, cts (x.2 ++ (ns.drop x.1).map (firstC w)), 0⟩)], 3⟩) := by
  refine loop_ind (σ := Nat × (List Ct)) (fun x => ns.length - x.1) _ (fun x => ⟨[(1, .int .i64 w), (5, .ref 2 0 x.2.length), (10, .ref 3 0 ns.length), (11, .int .i64 ns.length), (12, .int .i64 x.1)], [(2, ⟨false, false, 3, cts x.2, 0⟩), (3, ⟨false, false, 1, ints ns, 0⟩)], 4⟩) _ ?_
  rintro ⟨i, out⟩ hi ih s hs
  simp only at hi
  refine loop_s cd116 rfl rfl hs ?_
  obtain ⟨hi, ho⟩ := hi
  refine wa_ (wc_region (w_ (b_ (h := wo_nil (e_ (h := aft_normal (wa_ (?_))))))))
  refine c_ (h1 := ?_) (h2 := ?_)
  rotate_right 1
  focus
   intro c1
   first
   | exact dn c1
   | (have d1 := c1; try simp at d1
      refine wc_exit (?_)
      )
  rotate_right 1
  focus
   intro c1
   first
   | exact dn c1
   | (have d1 := c1; try simp at d1
      have hw := wrap_succ (i := i) (by omega); obtain ⟨x, hx, e1, g1⟩ := ints_cut (l := ns) (i := i) (by omega); have g2 : (ints ns)[i]? = some (.int .i64 x) := (by simpa using g1); obtain ⟨b1, b2⟩ := hm x (List.mem_of_getElem? hx); have hw2 : IntKind.i64.wrap (2 * x) = 2 * x := wrap_id (by omega) (by omega); have hw3 : IntKind.i64.wrap (2 * x + 1) = 2 * x + 1 := wrap_id (by omega) (by omega)
      refine wc_skip (?_)
      )
  all_goals first
  | refine aft_exit ?_
  | (refine aft_normal ?_
     refine wa_ (wc_block (wa_ (wc_region (w_ (x_ (h := w_ (l_ (h := w_ (a_ (h := wo_nil (e_ (h := aft_normal (wc_region (w_ (m_ (h := w_ (m_ (h := ?_))))))))))))))))))
     refine w_ (b_ (h := w_ (b_ (h := w_ (m_ (h := w_ (bd (h := w_ (bs (h := w_ (ap (h := w_ (a_ (h := wo_nil (e_ (h := blk_normal (aft_normal (wc_region (w_ (b_ (h := ?_)))))))))))))))))))))
     refine w_ (m_ (h := wo_nil (e_ (h := ?_))))
     )
  all_goals first
  | (refine (ih ((i + 1, out ++ [firstC w x])) (⟨by simp; omega, by simp; omega⟩) ?_ _ ?_).trans ?_; (focus (first | omega | (simp; done) | (simp; omega))); (focus (simp [normE, hw, hw2, hw3, firstC]; done)); (focus (rw [e1]; simp [firstC])))
  | (apply end_leaf (ex := (Ext.exit 0)) 2 (some [5]); (focus (simp [normE]; rfl)); (focus (rw [List.drop_eq_nil_of_le (by omega)]; simp)))
theorem e_firstI (pl : List Nd) (w : Int) (hp : pl.length < 2000000) : oc.call 116 [.lst false 0 (nds false 0 pl), .int .i64 w] = some (.lst true 3 (cts ((nodesR 1 0 pl).map (firstC w))), []) := by
  refine fun_s rfl cd116 rfl rfl rfl (by simp; rfl) (by simp; rfl) ?_
  have hl := nodesR_len (op := 1) (l := pl) (i := 0)
  refine wa_ (wc_region (w_ (aN (h := wo_nil (e_ (h := aft_normal (wa_ (wc_region (w_ (bs (h := w_ (a_ (h := wo_nil (e_ (h := aft_normal (wa_ (?_)))))))))))))))))
  refine wa_ (wc_region (w_ (m_ (h := w_ (ca (hc := e_nodesI pl 1 hp) (h := w_ (le (h := w_ (m_ (h := wo_nil (e_ (h := aft_normal (wc_block (?_))))))))))))))
  refine wc_loop (l_firstI (nodesR 1 0 pl) w (by omega) (fun x hx => by have := nodesR_mem hx; omega) (0, []) (by simp) _ (by simp [normE])) ?_
  refine blk_exit (aft_normal (wa_ (wc_region (w_ (m_ (h := w_ (a_ (h := wo_nil (e_ (h := aft_normal (wc_ret (?_))))))))))))
  all_goals (refine fin_ (hr := (res_tmp rfl res_nil)) (h := ?_); (focus (simp [List.take_of_length_le])))
theorem l_firstS (ns : List Int) (w : Int) (hl : ns.length < 2000000) (hm : ∀ x ∈ ns, 0 ≤ x ∧ x < 2000000) : ∀ x : Nat × (List Ct), (x.1 ≤ ns.length ∧ x.2.length ≤ x.1) → ∀ s, normE 2 (some [1, 5, 6, 7]) s = ⟨[(1, .int .i64 w), (5, .ref 2 0 x.2.length), (6, .ref 3 0 ns.length), (7, .int .i64 x.1)], [(2, ⟨false, false, 3, cts x.2, 0⟩), (3, ⟨false, false, 1, ints ns, 0⟩)], 4⟩ →
    oc.loop 114 4 s = some (.exit 0, ⟨[(5, .ref 2 0 (x.2 ++ (ns.drop x.1).map (firstC w)).length)], [(2, ⟨false, false, 3, cts (x.2 ++ (ns.drop x.1).map (firstC w)), 0⟩)], 3⟩) := by
  refine loop_ind (σ := Nat × (List Ct)) (fun x => ns.length - x.1) _ (fun x => ⟨[(1, .int .i64 w), (5, .ref 2 0 x.2.length), (6, .ref 3 0 ns.length), (7, .int .i64 x.1)], [(2, ⟨false, false, 3, cts x.2, 0⟩), (3, ⟨false, false, 1, ints ns, 0⟩)], 4⟩) _ ?_
  rintro ⟨i, out⟩ hi ih s hs
  simp only at hi
  refine loop_s cd114 rfl rfl hs ?_
  obtain ⟨hi, ho⟩ := hi
  refine wa_ (wa_ (wc_region (w_ (m_ (h := w_ (m_ (h := w_ (le (h := w_ (b_ (h := wo_nil (e_ (h := aft_normal (?_))))))))))))))
  refine c_ (h1 := ?_) (h2 := ?_)
  rotate_right 1
  focus
   intro c1
   first
   | exact dn c1
   | (have d1 := c1; try simp at d1
      refine wc_exit (?_)
      )
  rotate_right 1
  focus
   intro c1
   first
   | exact dn c1
   | (have d1 := c1; try simp at d1
      have hw := wrap_succ (i := i) (by omega); obtain ⟨x, hx, e1, g1⟩ := ints_cut (l := ns) (i := i) (by omega); have g2 : (ints ns)[i]? = some (.int .i64 x) := (by simpa using g1); obtain ⟨b1, b2⟩ := hm x (List.mem_of_getElem? hx); have hw2 : IntKind.i64.wrap (2 * x) = 2 * x := wrap_id (by omega) (by omega); have hw3 : IntKind.i64.wrap (2 * x + 1) = 2 * x + 1 := wrap_id (by omega) (by omega)
      refine wc_skip (?_)
      )
  all_goals first
  | refine aft_exit ?_
  | (refine aft_normal ?_
     refine wa_ (wc_block (wc_region (w_ (m_ (h := w_ (m_ (h := w_ (m_ (h := w_ (x_ (h := w_ (l_ (h := w_ (b_ (h := w_ (b_ (h := w_ (m_ (h := w_ (bd (h := ?_)))))))))))))))))))))
     refine w_ (bs (h := w_ (ap (h := w_ (a_ (h := wo_nil (e_ (h := blk_normal (aft_normal (wc_region (w_ (m_ (h := w_ (b_ (h := w_ (a_ (h := wo_nil (e_ (h := ?_)))))))))))))))))))
     )
  all_goals first
  | (refine (ih ((i + 1, out ++ [firstC w x])) (⟨by simp; omega, by simp; omega⟩) ?_ _ ?_).trans ?_; (focus (first | omega | (simp; done) | (simp; omega))); (focus (simp [normE, hw, hw2, hw3, firstC]; done)); (focus (rw [e1]; simp [firstC])))
  | (apply end_leaf (ex := (Ext.exit 0)) 2 (some [5]); (focus (simp [normE]; rfl)); (focus (rw [List.drop_eq_nil_of_le (by omega)]; simp)))
theorem e_firstS (pl : List Nd) (w : Int) (hp : pl.length < 2000000) : oc.call 114 [.lst false 0 (nds false 0 pl), .int .i64 w] = some (.lst true 3 (cts ((nodesR 1 0 pl).map (firstC w))), []) := by
  refine fun_s rfl cd114 rfl rfl rfl (by simp; rfl) (by simp; rfl) ?_
  have hl := nodesR_len (op := 1) (l := pl) (i := 0)
  refine wa_ (wc_region (w_ (aN (h := wo_nil (e_ (h := aft_normal (wa_ (wc_region (w_ (bs (h := w_ (a_ (h := wo_nil (e_ (h := aft_normal (wa_ (?_)))))))))))))))))
  refine wc_region (w_ (m_ (h := w_ (ca (hc := e_nodesS pl 1 hp) (h := w_ (a_ (h := wo_nil (e_ (h := aft_normal (wa_ (wa_ (wc_region (w_ (a_ (h := wo_nil (e_ (h := aft_normal (?_))))))))))))))))))
  refine wc_block (?_)
  refine wc_loop (l_firstS (nodesR 1 0 pl) w (by omega) (fun x hx => by have := nodesR_mem hx; omega) (0, []) (by simp) _ (by simp [normE])) ?_
  refine blk_exit (aft_normal (wa_ (wc_region (w_ (m_ (h := w_ (a_ (h := wo_nil (e_ (h := aft_normal (wc_ret (?_))))))))))))
  all_goals (refine fin_ (hr := (res_tmp rfl res_nil)) (h := ?_); (focus (simp [List.take_of_length_le])))
def firstN (pl : List Nd) (w : Int) : Int × List Ct := if (lookN pl).2 ≠ 0 then ((lookN pl).2, []) else if inI w 1 3 = true then (0, (nodesR 1 0 pl).map (firstC w)) else (3, [])
@[simp] abbrev crv (r : Int × List Ct) : V := .agg [.int .i64 r.1, .lst true 3 (cts r.2)]
theorem e_firstNS (pl : List Nd) (w : Int) (hp : pl.length < 2000000) (hk : okN pl) : oc.call 45 [.lst false 0 (nds false 0 pl), .int .i64 w] = some (crv (firstN pl w), []) := by
  refine fun_s rfl cd45 rfl rfl rfl (by simp; rfl) (by simp; rfl) ?_
  refine wa_ (wc_region (w_ (al (h := wo_nil (e_ (h := aft_normal (wa_ (wa_ (wc_region (w_ (m_ (h := w_ (ca (hc := e_planS pl hp hk) (h := w_ (a_ (h := wo_nil (e_ (h := ?_))))))))))))))))))
  refine aft_normal (wa_ (wc_region (w_ (m_ (h := w_ (bE (h := wo_nil (e_ (h := aft_normal (?_))))))))))
  refine c_ (h1 := ?_) (h2 := ?_)
  rotate_right 1
  focus
   intro c1
   first
   | exact dn c1
   | (have d1 := c1; try simp at d1
      refine wc_skip (?_)
      )
  rotate_right 1
  focus
   intro c1
   first
   | exact dn c1
   | (have d1 := c1; try simp at d1
      refine wa_ (wc_region (w_ (m_ (h := w_ (bd (h := w0 (s_ (h := wo_nil (e_ (h := aft_normal (wc_ret (?_))))))))))))
      )
  all_goals first
  | refine aft_ret ?_
  | (refine aft_normal ?_
     refine wa_ (wa_ (wc_region (w_ (m_ (h := w_ (ca (hc := e_l1In _ _ _) (h := w_ (u_ (h := wo_nil (e_ (h := aft_normal (?_))))))))))))
     refine c_ (h1 := ?_) (h2 := ?_)
     rotate_right 1
     focus
      intro c2
      first
      | exact dn c2
      | (have d2 := c2; try simp at d2
         refine wc_skip (?_)
         )
     rotate_right 1
     focus
      intro c2
      first
      | exact dn c2
      | (have d2 := c2; try simp at d2
         refine wa_ (wc_region (w_ (bd (h := w0 (s_ (h := wo_nil (e_ (h := aft_normal (wc_ret (?_))))))))))
         )
     all_goals first
     | refine aft_ret ?_
     | (refine aft_normal ?_
        refine wa_ (wc_region (w_ (m_ (h := w_ (m_ (h := w_ (ca (hc := e_firstS pl w hp) (h := w_ (bd (h := w0 (s_ (h := wo_nil (e_ (h := aft_normal (wc_ret (?_))))))))))))))))
        )
     )
  all_goals (refine fin_ (hr := (res_cell (tys_ok.zero _ _ rfl) rfl (by simp; rfl) (by rfl) res_nil)) (h := ?_); (focus (clear hk; simp only [firstN, crv]; (repeat' split) <;> simp_all [List.take_of_length_le])))
theorem e_firstNI (pl : List Nd) (w : Int) (hp : pl.length < 2000000) (hk : okN pl) : oc.call 46 [.lst false 0 (nds false 0 pl), .int .i64 w] = some (crv (firstN pl w), []) := by
  refine fun_s rfl cd46 rfl rfl rfl (by simp; rfl) (by simp; rfl) ?_
  refine wa_ (wc_region (w_ (al (h := wo_nil (e_ (h := aft_normal (wa_ (wa_ (wc_region (w_ (m_ (h := w_ (ca (hc := e_planI pl hp hk) (h := w_ (a_ (h := wo_nil (e_ (h := ?_))))))))))))))))))
  refine aft_normal (wa_ (wc_region (w_ (m_ (h := w_ (bE (h := wo_nil (e_ (h := aft_normal (?_))))))))))
  refine c_ (h1 := ?_) (h2 := ?_)
  rotate_right 1
  focus
   intro c1
   first
   | exact dn c1
   | (have d1 := c1; try simp at d1
      refine wc_skip (?_)
      )
  rotate_right 1
  focus
   intro c1
   first
   | exact dn c1
   | (have d1 := c1; try simp at d1
      refine wa_ (wc_region (w_ (m_ (h := w_ (bd (h := w0 (s_ (h := wo_nil (e_ (h := aft_normal (wc_ret (?_))))))))))))
      )
  all_goals first
  | refine aft_ret ?_
  | (refine aft_normal ?_
     refine wa_ (wa_ (wc_region (w_ (m_ (h := w_ (ca (hc := e_in _ _ _) (h := w_ (u_ (h := wo_nil (e_ (h := aft_normal (?_))))))))))))
     refine c_ (h1 := ?_) (h2 := ?_)
     rotate_right 1
     focus
      intro c2
      first
      | exact dn c2
      | (have d2 := c2; try simp at d2
         refine wc_skip (?_)
         )
     rotate_right 1
     focus
      intro c2
      first
      | exact dn c2
      | (have d2 := c2; try simp at d2
         refine wa_ (wc_region (w_ (bd (h := w0 (s_ (h := wo_nil (e_ (h := aft_normal (wc_ret (?_))))))))))
         )
     all_goals first
     | refine aft_ret ?_
     | (refine aft_normal ?_
        refine wa_ (wc_region (w_ (m_ (h := w_ (m_ (h := w_ (ca (hc := e_firstI pl w hp) (h := w_ (bd (h := w0 (s_ (h := wo_nil (e_ (h := aft_normal (wc_ret (?_))))))))))))))))
        )
     )
  all_goals (refine fin_ (hr := (res_cell (tys_ok.zero _ _ rfl) rfl (by simp; rfl) (by rfl) res_nil)) (h := ?_); (focus (clear hk; simp only [firstN, crv]; (repeat' split) <;> simp_all [List.take_of_length_le])))
end Go.Proofs.Ytmednhpmcplplaa.Ev
namespace Go.Proofs.Ytmednhpmcplplaa.Ev
open Go
set_option maxRecDepth 100000
set_option linter.unusedSimpArgs false
set_option linter.unusedVariables false
set_option maxHeartbeats 2000000
theorem wS_le {α : Type} {f : α → Nat} {c : Nat} {l : List α} (h : ∀ x ∈ l, f x ≤ c) : wS f l ≤ l.length * c := by
  induction l with
  | nil => simp
  | cons x r ih =>
    have h1 := h x (List.mem_cons_self ..)
    have h2 := ih (fun y hy => h y (List.mem_cons_of_mem _ hy))
    simp only [wS_cons, List.length_cons, Nat.succ_mul]
    omega
theorem cn_Nds_le {l : List Nd} (hp : l.length < 2000000) (hk : okN l) : cn_Nds l < 5000000000000 := by
  have h1 : cn_Nds l ≤ l.length * 2000006 := wS_le (f := cn_Nd) (fun x hx => by have := hk x hx; unfold cn_Nd; omega)
  have h2 : l.length * 2000006 ≤ 2000000 * 2000006 := Nat.mul_le_mul_right _ (by omega)
  omega
theorem cn_Cts_eq {l : List Ct} : cn_Cts l = 3 * l.length := by
  unfold cn_Cts
  induction l with
  | nil => rfl
  | cons x r ih => simp only [wS_cons, List.length_cons, ih, cn_Ct]; omega
@[simp] abbrev crF (r : Int × List Ct) : V := .agg [.int .i64 r.1, .lst false 0 (cts r.2)]
theorem e_eqCr (r s : Int × List Ct) (h1 : r.2.length < 2000000) (h2 : s.2.length < 2000000) : oc.call 47 [crF r, crF s] = some (.bool (decide (r = s)), []) := by
  refine fun_s rfl cd47 rfl rfl rfl (by simp; rfl) (by simp; rfl) ?_
  refine wa_ (wc_region (w_ (bx (h := w_ (bx (h := w_ (a_ (h := wo_nil (e_ (h := aft_normal (wa_ (wa_ (wc_region (w_ (f_ (h := w_ (l_ (h := ?_))))))))))))))))))
  refine w_ (f_ (h := w_ (l_ (h := w_ (bE (h := wo_nil (e_ (h := aft_normal (?_)))))))))
  refine c_ (h1 := ?_) (h2 := ?_)
  rotate_right 1
  focus
   intro c1
   first
   | exact dn c1
   | (have d1 := c1; try simp at d1
      refine wc_skip (?_)
      )
  rotate_right 1
  focus
   intro c1
   first
   | exact dn c1
   | (have d1 := c1; try simp at d1
      refine wa_ (wc_region (w_ (a_ (h := wo_nil (e_ (h := aft_normal (wc_ret (?_))))))))
      )
  all_goals first
  | refine aft_ret ?_
  | (refine aft_normal ?_
     refine wa_ (wa_ (wc_region (w_ (f_ (h := w_ (l_ (h := w_ (f_ (h := w_ (l_ (h := w_ (ca (hc := eq_Cts r.2 s.2 h1 h2) (h := w_ (u_ (h := wo_nil (e_ (h := aft_normal (?_))))))))))))))))))
     refine c_ (h1 := ?_) (h2 := ?_)
     rotate_right 1
     focus
      intro c2
      first
      | exact dn c2
      | (have d2 := c2; try simp at d2
         refine wc_skip (?_)
         )
     rotate_right 1
     focus
      intro c2
      first
      | exact dn c2
      | (have d2 := c2; try simp at d2
         refine wa_ (wc_region (w_ (a_ (h := wo_nil (e_ (h := aft_normal (wc_ret (?_))))))))
         )
     all_goals first
     | refine aft_ret ?_
     | (refine aft_normal ?_
        refine wa_ (wc_region (w_ (a_ (h := wo_nil (e_ (h := aft_normal (wc_ret (?_))))))))
        )
     )
  all_goals (refine fin_ (hr := (res_tmp rfl res_nil)) (h := ?_); (focus (simp [Prod.ext_iff] at *; simp_all)))
theorem e_heldCr (c k : Int) (l : List Ct) (hk : 0 ≤ k) (hb : k + (cn_Cts l : Nat) < 1000000000000000000) : oc.call 50 [crF (c, mk_Cts k l), .int .i64 k] = some (.int .i64 (k + (cn_Cts l : Nat)), []) := by
  refine fun_s rfl cd50 rfl rfl rfl (by simp; rfl) (by simp; rfl) ?_
  refine wa_ (wc_region (w_ (bx (h := w_ (a_ (h := wo_nil (e_ (h := aft_normal (wa_ (wc_region (w_ (f_ (h := w_ (l_ (h := w_ (m_ (h := w_ (ca (hc := held_Cts k l hk hb) (h := ?_)))))))))))))))))))
  refine w_ (a_ (h := wo_nil (e_ (h := aft_normal (wa_ (wa_ (wc_region (w_ (m_ (h := w_ (b_ (h := wo_nil (e_ (h := aft_normal (?_)))))))))))))))
  refine c_ (h1 := ?_) (h2 := ?_)
  rotate_right 1
  focus
   intro c1
   first
   | exact dn c1
   | (have d1 := c1; try simp at d1
      refine wc_skip (?_)
      )
  rotate_right 1
  focus
   intro c1
   first
   | exact dn c1
   | (have d1 := c1; try simp at d1
      refine wa_ (wc_region (w_ (a_ (h := wo_nil (e_ (h := aft_normal (wc_ret (?_))))))))
      )
  all_goals first
  | refine aft_ret ?_
  | (refine aft_normal ?_
     refine wa_ (wc_region (w_ (m_ (h := w_ (a_ (h := wo_nil (e_ (h := aft_normal (wc_ret (?_))))))))))
     )
  all_goals (refine fin_ (hr := (res_tmp rfl res_nil)) (h := ?_); (focus (first | (simp at *; done) | (simp at *; omega))))
theorem firstN_len {pl : List Nd} {w : Int} (hp : pl.length < 2000000) : (firstN pl w).2.length < 2000000 := by
  have := nodesR_len (op := 1) (l := pl) (i := 0)
  unfold firstN
  split
  · simp
  · split <;> simp; omega
theorem law_first (pl : List Nd) (w : Int) (ho : okB pl) : oc.call 9 [.lst false 0 (nds false 0 pl), .int .i64 w] = some (.bool true, []) := by
  refine fun_s rfl cd9 rfl rfl rfl (by simp; rfl) (by simp; rfl) ?_
  refine wa_ (wc_region (w_ (a_ (h := wo_nil (e_ (h := aft_normal (wa_ (wc_region (w_ (a_ (h := wo_nil (e_ (h := aft_normal (wa_ (wc_region (?_))))))))))))))))
  refine w_ (m_ (h := w_ (m_ (h := w_ (ca (hc := e_szNS pl 0 1048576 ho (by omega) (by omega)) (h := w_ (a_ (h := wo_nil (e_ (h := aft_normal (wa_ (wa_ (wc_region (w_ (m_ (h := w_ (b_ (h := wo_nil (e_ (h := ?_))))))))))))))))))))
  refine aft_normal (?_)
  refine c_ (h1 := ?_) (h2 := ?_)
  rotate_right 1
  focus
   intro c1
   first
   | exact dn c1
   | (have d1 := c1; try simp at d1
      obtain ⟨h1, h2, h3⟩ := szP_ok (l := pl) (a := 1048576) (by omega) (by omega); have hn := cn_Nds_le h1 h2; have hc := firstN_len (w := w) h1; have hcc := cn_Cts_eq (l := (firstN pl w).2)
      refine wc_skip (?_)
      )
  rotate_right 1
  focus
   intro c1
   first
   | exact dn c1
   | (have d1 := c1; try simp at d1
      refine wa_ (wc_region (w_ (a_ (h := wo_nil (e_ (h := aft_normal (wc_ret (?_))))))))
      )
  all_goals first
  | refine aft_ret ?_
  | (refine aft_normal ?_
     refine wa_ (wc_region (w_ (m_ (h := w_ (ca (hc := e_toNS pl 0 h1 h2) (h := w_ (m_ (h := w_ (ca (hc := e_firstNS pl w h1 h2) (h := w_ (al (h := w0 (s_ (h := wo_nil (e_ (h := aft_normal (wa_ (wc_region (?_)))))))))))))))))))
     refine w_ (m_ (h := w_ (ca (hc := e_toNS pl 0 h1 h2) (h := w_ (a_ (h := wo_nil (e_ (h := aft_normal (wa_ (wc_region (w_ (m_ (h := w_ (m_ (h := w_ (ca (hc := e_firstNI pl w h1 h2) (h := w_ (al (h := w0 (s_ (h := ?_)))))))))))))))))))))
     refine wo_nil (e_ (h := aft_normal (wa_ (wa_ (wc_region (w_ (l_ (h := w_ (l_ (h := w_ (ca (hc := e_eqCr (firstN pl w) (firstN pl w) hc hc) (h := w_ (u_ (h := wo_nil (e_ (h := aft_normal (?_)))))))))))))))))
     refine c_ (h1 := ?_) (h2 := ?_)
     rotate_right 1
     focus
      intro c2
      first
      | exact dn c2
      | (have d2 := c2; try simp at d2
         refine wc_skip (?_)
         )
     rotate_right 1
     focus
      intro c2
      first
      | exact dn c2
      | (have d2 := c2; try simp at d2
         refine wa_ (wc_region (w_ (a_ (h := wo_nil (e_ (h := aft_normal (wc_ret (?_))))))))
         )
     all_goals first
     | refine aft_ret ?_
     | (refine aft_normal ?_
        refine wa_ (wa_ (wc_region (w_ (m_ (h := w_ (m_ (h := w_ (ca (hc := e_toNS pl 0 h1 h2) (h := w_ (ca (hc := e_eqNS pl pl 0 0 h1 h1 h2 h2) (h := w_ (u_ (h := wo_nil (e_ (h := aft_normal (?_))))))))))))))))
        refine c_ (h1 := ?_) (h2 := ?_)
        rotate_right 1
        focus
         intro c3
         first
         | exact dn c3
         | (have d3 := c3; try simp at d3
            refine wc_skip (?_)
            )
        rotate_right 1
        focus
         intro c3
         first
         | exact dn c3
         | (have d3 := c3; try simp at d3
            refine wa_ (wc_region (w_ (a_ (h := wo_nil (e_ (h := aft_normal (wc_ret (?_))))))))
            )
        all_goals first
        | refine aft_ret ?_
        | (refine aft_normal ?_
           refine wa_ (wc_region (w_ (a_ (h := wo_nil (e_ (h := aft_normal (wa_ (wc_region (w_ (m_ (h := w_ (m_ (h := ?_)))))))))))))
           first | refine ip (hc := mkf_Nds 1 pl (by omega) (by omega)) (h := ?_) | refine iq (hc := mkf_Nds 1 pl (by omega) (by omega)) (h := ?_)
           refine w_ (a_ (h := wo_nil (e_ (h := aft_normal (wa_ (wa_ (wc_region (w_ (m_ (h := w_ (b_ (h := w_ (m_ (h := ?_))))))))))))))
           refine gw_ (h1 := ?_) (h2 := ?_)
           rotate_right 1
           focus
            intro c4
            first
            | exact dn c4
            | (have d4 := c4; try simp at d4
               refine go_ (h := go_ (h := go_ (h := go_ (h := ?_))))
               )
           rotate_right 1
           focus
            intro c4
            first
            | exact dn c4
            | (have d4 := c4; try simp at d4
               refine g_ (h := w_ (l_ (h := g_ (h := w_ (l_ (h := g_ (h := w_ (ca (hc := e_eqCr (firstN pl w) (firstN pl w) hc hc) (h := g_ (h := w_ (u_ (h := ?_))))))))))))
               )
           all_goals
            refine w_ (pk (h := wo_nil (e_ (h := ?_))))
           all_goals first
           | (refine aft_normal ?_
              refine c_ (h1 := ?_) (h2 := ?_)
              rotate_right 1
              focus
               intro c5
               first
               | exact dn c5
               | (have d5 := c5; try simp at d5
                  refine wc_skip (?_)
                  )
              rotate_right 1
              focus
               intro c5
               first
               | exact dn c5
               | (have d5 := c5; try simp at d5
                  refine wa_ (wc_region (w_ (a_ (h := wo_nil (e_ (h := aft_normal (wc_ret (?_))))))))
                  )
              )
           all_goals first
           | refine aft_ret ?_
           | (refine aft_normal ?_
              refine wa_ (wc_region (w_ (a_ (h := wo_nil (e_ (h := aft_normal (wa_ (wc_region (w_ (l_ (h := w_ (m_ (h := ?_)))))))))))))
              refine iE (h := ?_)
              apply Exists.intro
              apply Exists.intro
              apply Exists.intro
              apply And.intro
              focus
               apply inl_s (by rw [cf_pl]; rfl) cd49 rfl rfl (by simp; rfl)
               refine wa_ (wc_region (w_ (bx (h := w_ (a_ (h := wo_nil (e_ (h := aft_normal (wa_ (wc_region (w_ (f_ (h := w_ (l_ (h := w_ (m_ (h := ?_)))))))))))))))))
               first | refine ip (hc := mkf_Cts 1 (firstN pl w).2 (by omega) (by omega)) (h := ?_) | refine iq (hc := mkf_Cts 1 (firstN pl w).2 (by omega) (by omega)) (h := ?_)
               refine w_ (a_ (h := wo_nil (e_ (h := aft_normal (wa_ (wc_region (w_ (m_ (h := w_ (a_ (h := wo_nil (e_ (h := aft_normal (wc_ret (?_)))))))))))))))
               exact ⟨by simp, _, rfl, rfl, rfl⟩
              refine ⟨_, (by (simp; rfl)), ?_⟩
              refine w_ (a_ (h := wo_nil (e_ (h := aft_normal (wa_ (wc_region (w_ (a_ (h := wo_nil (e_ (h := aft_normal (wa_ (wc_region (w_ (l_ (h := w_ (m_ (h := ?_))))))))))))))))))
              refine w_ (ca (hc := e_heldCr (firstN pl w).1 1 (firstN pl w).2 (by omega) (by omega)) (h := w_ (a_ (h := wo_nil (e_ (h := aft_normal (wa_ (wa_ (wc_region (w_ (m_ (h := w_ (b_ (h := wo_nil (e_ (h := aft_normal (?_)))))))))))))))))
              refine c_ (h1 := ?_) (h2 := ?_)
              rotate_right 1
              focus
               intro c6
               first
               | exact dn c6
               | (have d6 := c6; try simp at d6
                  refine wc_skip (?_)
                  )
              rotate_right 1
              focus
               intro c6
               first
               | exact dn c6
               | (have d6 := c6; try simp at d6
                  refine wa_ (wc_region (w_ (a_ (h := wo_nil (e_ (h := aft_normal (wc_ret (?_))))))))
                  )
              all_goals first
              | refine aft_ret ?_
              | (refine aft_normal ?_
                 refine wa_ (wa_ (wc_region (w_ (m_ (h := w_ (m_ (h := w_ (bE (h := wo_nil (e_ (h := aft_normal (?_))))))))))))
                 refine c_ (h1 := ?_) (h2 := ?_)
                 rotate_right 1
                 focus
                  intro c7
                  first
                  | exact dn c7
                  | (have d7 := c7; try simp at d7
                     refine wc_skip (?_)
                     )
                 rotate_right 1
                 focus
                  intro c7
                  first
                  | exact dn c7
                  | (have d7 := c7; try simp at d7
                     refine wa_ (wc_region (w_ (a_ (h := wo_nil (e_ (h := aft_normal (wc_ret (?_))))))))
                     )
                 all_goals first
                 | refine aft_ret ?_
                 | (refine aft_normal ?_
                    refine wa_ (wc_region (w_ (m_ (h := w_ (ca (hc := e_toNS pl 0 h1 h2) (h := w_ (m_ (h := w_ (ca (hc := e_firstNI pl w h1 h2) (h := w_ (al (h := w0 (s_ (h := wo_nil (e_ (h := aft_normal (wa_ (wa_ (?_)))))))))))))))))))
                    refine wc_region (w_ (l_ (h := w_ (l_ (h := w_ (ca (hc := e_eqCr (firstN pl w) (firstN pl w) hc hc) (h := w_ (u_ (h := wo_nil (e_ (h := aft_normal (?_))))))))))))
                    refine c_ (h1 := ?_) (h2 := ?_)
                    rotate_right 1
                    focus
                     intro c8
                     first
                     | exact dn c8
                     | (have d8 := c8; try simp at d8
                        refine wc_skip (?_)
                        )
                    rotate_right 1
                    focus
                     intro c8
                     first
                     | exact dn c8
                     | (have d8 := c8; try simp at d8
                        refine wa_ (wc_region (w_ (a_ (h := wo_nil (e_ (h := aft_normal (wc_ret (?_))))))))
                        )
                    all_goals first
                    | refine aft_ret ?_
                    | (refine aft_normal ?_
                       refine wa_ (wc_region (w_ (a_ (h := wo_nil (e_ (h := aft_normal (wa_ (wc_region (w_ (l_ (h := w_ (m_ (h := w_ (ca (hc := e_heldCr (firstN pl w).1 1 (firstN pl w).2 (by omega) (by omega)) (h := w_ (a_ (h := wo_nil (e_ (h := ?_)))))))))))))))))))
                       refine aft_normal (wa_ (wa_ (wc_region (w_ (m_ (h := w_ (b_ (h := wo_nil (e_ (h := aft_normal (?_)))))))))))
                       refine c_ (h1 := ?_) (h2 := ?_)
                       rotate_right 1
                       focus
                        intro c9
                        first
                        | exact dn c9
                        | (have d9 := c9; try simp at d9
                           refine wc_skip (?_)
                           )
                       rotate_right 1
                       focus
                        intro c9
                        first
                        | exact dn c9
                        | (have d9 := c9; try simp at d9
                           refine wa_ (wc_region (w_ (a_ (h := wo_nil (e_ (h := aft_normal (wc_ret (?_))))))))
                           )
                       all_goals first
                       | refine aft_ret ?_
                       | (refine aft_normal ?_
                          refine wa_ (wa_ (wc_region (w_ (m_ (h := w_ (m_ (h := w_ (bE (h := wo_nil (e_ (h := aft_normal (?_))))))))))))
                          refine c_ (h1 := ?_) (h2 := ?_)
                          rotate_right 1
                          focus
                           intro c10
                           first
                           | exact dn c10
                           | (have d10 := c10; try simp at d10
                              refine wc_skip (?_)
                              )
                          rotate_right 1
                          focus
                           intro c10
                           first
                           | exact dn c10
                           | (have d10 := c10; try simp at d10
                              refine wa_ (wc_region (w_ (a_ (h := wo_nil (e_ (h := aft_normal (wc_ret (?_))))))))
                              )
                          all_goals first
                          | refine aft_ret ?_
                          | (refine aft_normal ?_
                             refine wa_ (wc_region (w_ (a_ (h := wo_nil (e_ (h := aft_normal (wc_ret (?_))))))))
                             )
                          )
                       )
                    )
                 )
              )
           )
        )
     )
  all_goals (refine fin_ (hr := (res_tmp rfl res_nil)) (h := ?_); (focus (simp)))
end Go.Proofs.Ytmednhpmcplplaa.Ev
