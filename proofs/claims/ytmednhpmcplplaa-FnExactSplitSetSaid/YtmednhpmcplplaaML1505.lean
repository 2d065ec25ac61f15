/- Part 5 of the proof that the law named in the last part returns true at every argument: an evaluator of the program, shown sound, and its runs. No further conditions. -/
import Derived.Test.YtmednhpmcplplaaML1504
namespace Go.Proofs.Ytmednhpmcplplaa.Ev
open Go
set_option maxRecDepth 100000
set_option linter.unusedSimpArgs false
set_option linter.unusedVariables false
set_option maxHeartbeats 2000000
def isPl (pl : List Nd) (a : Int) : Bool := inI a 0 (2 * (pl.length : Int) - 1)
theorem e_isPlace (pl : List Nd) (a : Int) (hp : pl.length < 2000000) : oc.call 94 [.lst false 0 (nds false 0 pl), .int .i64 a] = some (.bool (isPl pl a), []) := by
  refine fun_s rfl cd94 rfl rfl rfl (by simp; rfl) (by simp; rfl) ?_
  have h1 : IntKind.i64.wrap (2 * (pl.length : Int)) = 2 * pl.length := wrap_id (by omega) (by omega)
  have h2 : IntKind.i64.wrap (2 * (pl.length : Int) - 1) = 2 * pl.length - 1 := wrap_id (by omega) (by omega)
  refine wa_ (wc_region (w_ (a_ (h := wo_nil (e_ (h := aft_normal (wa_ (wc_region (w_ (m_ (h := w_ (m_ (h := w_ (ca (hc := e_sizeN _ _ (by simp; omega)) (h := w_ (b_ (h := w_ (b_ (h := ?_)))))))))))))))))))
  refine w_ (ca (hc := e_in _ _ _) (h := w_ (a_ (h := wo_nil (e_ (h := aft_normal (wc_ret (?_))))))))
  all_goals (refine fin_ (hr := (res_tmp rfl res_nil)) (h := ?_); (focus (simp [isPl, h1, h2])))
theorem e_l7Place (pl : List Nd) (a : Int) (hp : pl.length < 2000000) : oc.call 98 [.lst false 0 (nds false 0 pl), .int .i64 a] = some (.bool (isPl pl a), []) := by
  refine fun_s rfl cd98 rfl rfl rfl (by simp; rfl) (by simp; rfl) ?_
  have h1 : IntKind.i64.wrap (2 * (pl.length : Int)) = 2 * pl.length := wrap_id (by omega) (by omega)
  have h2 : IntKind.i64.wrap (2 * (pl.length : Int) - 1) = 2 * pl.length - 1 := wrap_id (by omega) (by omega)
  refine wa_ (wc_region (w_ (a_ (h := wo_nil (e_ (h := aft_normal (wa_ (wc_region (w_ (m_ (h := w_ (m_ (h := w_ (le (h := w_ (b_ (h := w_ (b_ (h := ?_)))))))))))))))))))
  refine w_ (ca (hc := e_l1In _ _ _) (h := w_ (a_ (h := wo_nil (e_ (h := aft_normal (wc_ret (?_))))))))
  all_goals (refine fin_ (hr := (res_tmp rfl res_nil)) (h := ?_); (focus (simp [isPl, h1, h2])))
def idxF (v : Int) (i : Nat) : List Int → Int
  | [] => -1
  | x :: r => if v = x then i else idxF v (i + 1) r
theorem idxF_neg {v : Int} : ∀ {l : List Int} {i : Nat}, 0 ≤ idxF v i l ↔ v ∈ l
  | [], i => by simp [idxF]
  | x :: r, i => by
    unfold idxF
    by_cases h : v = x
    · simp [h]
    · simp [h, idxF_neg (l := r) (i := i + 1)]
theorem l_index (l : List Int) (v : Int) (hl : l.length < 2000000) : ∀ i : Nat, i ≤ l.length → ∀ s, normE 2 (some [0, 1, 7, 8]) s = ⟨[(0, .lst false 0 (ints l)), (1, .int .i64 v), (7, .int .i64 l.length), (8, .int .i64 i)], [], 2⟩ →
    oc.loop 205 2 s = some (if 0 ≤ idxF v i (l.drop i) then (.ret, ⟨[(4, .int .i64 (idxF v i (l.drop i)))], [], 2⟩) else (.exit 0, ⟨[], [], 2⟩)) := by
  refine loop_ind (fun i => l.length - i) _ (fun i => ⟨[(0, .lst false 0 (ints l)), (1, .int .i64 v), (7, .int .i64 l.length), (8, .int .i64 i)], [], 2⟩) _ ?_
  intro i hi ih s hs
  refine loop_s cd205 rfl rfl hs ?_
  refine wa_ (wc_region (w_ (b_ (h := wo_nil (e_ (h := aft_normal (wa_ (?_))))))))
  refine c_ (h1 := ?_) (h2 := ?_)
  rotate_right 1
  focus
   intro c1
   first
   | exact dn c1
   | (have d1 := c1; try simp at d1
      refine wc_exit (?_)
      )
  rotate_right 1
  focus
   intro c1
   first
   | exact dn c1
   | (have d1 := c1; try simp at d1
      have hw := wrap_succ (i := i) (by omega); obtain ⟨x, hx, e1, g1⟩ := ints_cut (l := l) (i := i) (by omega)
      refine wc_skip (?_)
      )
  all_goals first
  | refine aft_exit ?_
  | (refine aft_normal ?_
     refine wa_ (wc_block (wa_ (wc_region (w_ (m_ (h := w_ (a_ (h := wo_nil (e_ (h := aft_normal (wa_ (wc_region (w_ (m_ (h := w_ (m_ (h := ?_)))))))))))))))))
     refine w_ (m_ (h := w_ (x_ (h := w_ (l_ (h := w_ (bE (h := wo_nil (e_ (h := aft_normal (?_)))))))))))
     refine c_ (h1 := ?_) (h2 := ?_)
     rotate_right 1
     focus
      intro c2
      first
      | exact dn c2
      | (have d2 := c2; try simp at d2
         refine wc_skip (?_)
         )
     rotate_right 1
     focus
      intro c2
      first
      | exact dn c2
      | (have d2 := c2; try simp at d2
         refine wa_ (wc_region (w_ (m_ (h := w_ (a_ (h := wo_nil (e_ (h := aft_normal (wc_ret (?_))))))))))
         )
     all_goals first | refine blk_normal ?_ | refine blk_ret ?_
     all_goals first
     | refine aft_ret ?_
     | (refine aft_normal ?_
        refine wc_region (w_ (b_ (h := w_ (m_ (h := wo_nil (e_ (h := ?_)))))))
        )
     )
  all_goals first
  | (refine (ih (i + 1) (by omega) ?_ _ ?_).trans ?_; (focus (first | omega | (simp; done) | (simp; omega))); (focus (simp [normE, hw]; done)); (focus (rw [e1]; simp only [idxF, if_neg d2])))
  | (apply end_leaf (ex := Ext.ret) 2 (some [4]); (focus (simp [normE]; rfl)); (focus (rw [e1]; simp [idxF, d2])))
  | (apply end_leaf (ex := (Ext.exit 0)) 2 (some [4]); (focus (simp [normE]; rfl)); (focus (rw [List.drop_eq_nil_of_le (by omega)]; simp [idxF])))
theorem e_index (l : List Int) (v : Int) (hl : l.length < 2000000) : oc.call 205 [.lst false 0 (ints l), .int .i64 v] = some (.int .i64 (if 0 ≤ idxF v 0 l then idxF v 0 l else -1), []) := by
  refine fun_s rfl cd205 rfl rfl rfl (by simp; rfl) (by simp; rfl) ?_
  refine wa_ (wc_region (w_ (a_ (h := wo_nil (e_ (h := aft_normal (wa_ (wa_ (wc_region (w_ (m_ (h := w_ (le (h := w_ (m_ (h := wo_nil (e_ (h := ?_))))))))))))))))))
  refine aft_normal (wc_block (?_))
  refine wc_loopI (l_index l v hl 0 (by omega) _ (by simp [normE])) ?_ ?_
  rotate_right 1
  focus
   intro c1
   skip
  rotate_right 1
  focus
   intro c1
   skip
  all_goals first | refine blk_ret ?_ | refine blk_exit ?_
  all_goals first
  | refine aft_ret ?_
  | (refine aft_normal ?_
     refine wa_ (wc_region (w_ (a_ (h := wo_nil (e_ (h := aft_normal (wc_ret (?_))))))))
     )
  all_goals (refine fin_ (hr := (res_tmp rfl res_nil)) (h := ?_); (focus (first | (simp_all; done) | (simp_all <;> omega) | (simp_all <;> split <;> simp_all <;> omega))))
theorem e_contains (l : List Int) (v : Int) (hl : l.length < 2000000) : oc.call 192 [.lst false 0 (ints l), .int .i64 v] = some (.bool (l.contains v), []) := by
  refine fun_s rfl cd192 rfl rfl rfl (by simp; rfl) (by simp; rfl) ?_
  refine wa_ (wc_region (w_ (a_ (h := wo_nil (e_ (h := aft_normal (wa_ (wc_region (w_ (m_ (h := w_ (m_ (h := w_ (ca (hc := e_index _ _ hl) (h := w_ (b_ (h := w_ (a_ (h := ?_)))))))))))))))))))
  refine wo_nil (e_ (h := aft_normal (wc_ret (?_))))
  all_goals (refine fin_ (hr := (res_tmp rfl res_nil)) (h := ?_); (focus (simp; have := idxF_neg (v := v) (l := l) (i := 0); grind)))
end Go.Proofs.Ytmednhpmcplplaa.Ev
namespace Go.Proofs.Ytmednhpmcplplaa.Ev
open Go
set_option maxRecDepth 100000
set_option linter.unusedSimpArgs false
set_option linter.unusedVariables false
set_option maxHeartbeats 2000000
theorem l_readersI (pl : List Nd) (a : Int) (hp : pl.length < 2000000) (hk : okN pl) : ∀ x : Nat × List Int, (x.1 ≤ pl.length ∧ x.2.length ≤ x.1) → ∀ s, normE 2 (some [1, 5, 9, 10, 11]) s = ⟨[(1, .int .i64 a), (5, .ref 2 0 x.2.length), (9, .lst false 0 (nds false 0 pl)), (10, .int .i64 pl.length), (11, .int .i64 x.1)], [(2, ⟨false, false, 1, ints x.2, 0⟩)], 3⟩ →
    oc.loop 152 3 s = some (.exit 0, ⟨[(5, .ref 2 0 (x.2 ++ rdFrom a x.1 (pl.drop x.1)).length)], [(2, ⟨false, false, 1, ints (x.2 ++ rdFrom a x.1 (pl.drop x.1)), 0⟩)], 3⟩) := by
  refine loop_ind (σ := Nat × List Int) (fun x => pl.length - x.1) _ (fun x => ⟨[(1, .int .i64 a), (5, .ref 2 0 x.2.length), (9, .lst false 0 (nds false 0 pl)), (10, .int .i64 pl.length), (11, .int .i64 x.1)], [(2, ⟨false, false, 1, ints x.2, 0⟩)], 3⟩) _ ?_
  rintro ⟨i, out⟩ ⟨hi, ho⟩ ih s hs
  simp only at hi ho
  refine loop_s cd152 rfl rfl hs ?_
  refine wa_ (wc_region (w_ (b_ (h := wo_nil (e_ (h := aft_normal (wa_ (?_))))))))
  refine c_ (h1 := ?_) (h2 := ?_)
  rotate_right 1
  focus
   intro c1
   first
   | exact dn c1
   | (have d1 := c1; try simp at d1
      refine wc_exit (?_)
      )
  rotate_right 1
  focus
   intro c1
   first
   | exact dn c1
   | (have d1 := c1; try simp at d1
      have hw := wrap_succ (i := i) (by omega); obtain ⟨d, hx, e1, g1⟩ := nds_cut (t := false) (s := 0) (l := pl) (i := i) (by omega); have hd := hk d (List.mem_of_getElem? hx); have hle : (readsN d).length < 2000000 := (by have : (readsN d).length ≤ 2 := (by unfold readsN; split; simp; split <;> simp); omega)
      refine wc_skip (?_)
      )
  all_goals first
  | refine aft_exit ?_
  | (refine aft_normal ?_
     refine wa_ (wc_block (wa_ (wc_region (w_ (m_ (h := w_ (x_ (h := w_ (l_ (h := w_ (al (h := w_ (a_ (h := w0 (s_ (h := wo_nil (e_ (h := aft_normal (?_)))))))))))))))))))
     refine wa_ (wc_region (w_ (l_ (h := w_ (ca (hc := e_reads 0 d) (h := w_ (m_ (h := w_ (ca (hc := e_contains (readsN d) a hle) (h := wo_nil (e_ (h := aft_normal (?_)))))))))))))
     refine c_ (h1 := ?_) (h2 := ?_)
     rotate_right 1
     focus
      intro c2
      first
      | exact dn c2
      | (have d2 := c2; try simp at d2
         refine wc_skip (?_)
         )
     rotate_right 1
     focus
      intro c2
      first
      | exact dn c2
      | (have d2 := c2; try simp at d2
         refine wc_region (w_ (m_ (h := w_ (m_ (h := w_ (bs (h := w_ (ap (h := w_ (a_ (h := wo_nil (e_ (h := ?_)))))))))))))
         )
     all_goals refine blk_normal ?_
     all_goals first
     | (refine aft_normal ?_
        refine wc_region (w_ (b_ (h := w_ (m_ (h := wo_nil (e_ (h := ?_)))))))
        )
     )
  all_goals first
  | (refine (ih ((i + 1, out ++ [(i : Int)])) (⟨by simp; omega, by simp; omega⟩) ?_ _ ?_).trans ?_; (focus (first | omega | (simp; done) | (simp; omega))); (focus (simp [normE, hw]; done)); (focus (have d3 : readsFrom d a = true := (by simpa [readsFrom] using d2); simp only [e1, rdFrom, d3, if_true]; simp)))
  | (refine (ih ((i + 1, out)) (⟨by simp; omega, by simp; omega⟩) ?_ _ ?_).trans ?_; (focus (first | omega | (simp; done) | (simp; omega))); (focus (simp [normE, hw]; done)); (focus (have d3 : readsFrom d a = false := (by simpa [readsFrom] using d2); simp only [e1, rdFrom, d3]; simp)))
  | (apply end_leaf (ex := (Ext.exit 0)) 2 (some [5]); (focus (simp [normE]; rfl)); (focus (simp only [List.drop_eq_nil_of_le (show pl.length ≤ i by omega), rdFrom]; simp)))
theorem e_readersI (pl : List Nd) (a : Int) (hp : pl.length < 2000000) (hk : okN pl) : oc.call 152 [.lst false 0 (nds false 0 pl), .int .i64 a] = some (.lst true 1 (ints (rdFrom a 0 pl)), []) := by
  refine fun_s rfl cd152 rfl rfl rfl (by simp; rfl) (by simp; rfl) ?_
  refine wa_ (wc_region (w_ (aN (h := wo_nil (e_ (h := aft_normal (wa_ (wc_region (w_ (bs (h := w_ (a_ (h := wo_nil (e_ (h := aft_normal (wa_ (?_)))))))))))))))))
  refine wa_ (wc_region (w_ (m_ (h := w_ (le (h := w_ (m_ (h := wo_nil (e_ (h := aft_normal (wc_block (?_))))))))))))
  refine wc_loop (l_readersI pl a hp hk (0, []) (by simp) _ (by simp [normE])) ?_
  refine blk_exit (aft_normal (wa_ (wc_region (w_ (m_ (h := w_ (a_ (h := wo_nil (e_ (h := aft_normal (wc_ret (?_))))))))))))
  all_goals (refine fin_ (hr := (res_tmp rfl res_nil)) (h := ?_); (focus (first | (simp_all; done) | (simp_all <;> omega) | (simp_all <;> split <;> simp_all <;> omega))))
end Go.Proofs.Ytmednhpmcplplaa.Ev
namespace Go.Proofs.Ytmednhpmcplplaa.Ev
open Go
set_option maxRecDepth 100000
set_option linter.unusedSimpArgs false
set_option linter.unusedVariables false
set_option maxHeartbeats 2000000
def idxP (p : Int → Bool) (i : Nat) : List Int → Int
  | [] => -1
  | x :: r => if p x = true then i else idxP p (i + 1) r
theorem idxP_any {p : Int → Bool} : ∀ {l : List Int} {i : Nat}, decide (0 ≤ idxP p i l) = l.any p
  | [], i => by simp [idxP]
  | x :: r, i => by
    unfold idxP
    by_cases h : p x = true
    · simp [h]
    · simp only [if_neg h, List.any_cons, idxP_any (l := r) (i := i + 1)]; simp [h]
theorem l_indexP (l : List Int) (pl : List Nd) (to : Int) (p : Int → Bool) (hl : l.length < 2000000) (hc : ∀ x ∈ l, oc.call 153 [.int .i64 x, .vptr (.lst false 0 (nds false 0 pl)), .vptr (.int .i64 to)] = some (.bool (p x), [])) : ∀ i : Nat, i ≤ l.length → ∀ s, normE 2 (some [0, 1, 7, 8]) s = ⟨[(0, .lst false 0 (ints l)), (1, .clo 153 [.vptr (.lst false 0 (nds false 0 pl)), .vptr (.int .i64 to)]), (7, .int .i64 l.length), (8, .int .i64 i)], [], 2⟩ →
    oc.loop 191 2 s = some (if 0 ≤ idxP p i (l.drop i) then (.ret, ⟨[(4, .int .i64 (idxP p i (l.drop i)))], [], 2⟩) else (.exit 0, ⟨[], [], 2⟩)) := by
  refine loop_ind (fun i => l.length - i) _ (fun i => ⟨[(0, .lst false 0 (ints l)), (1, .clo 153 [.vptr (.lst false 0 (nds false 0 pl)), .vptr (.int .i64 to)]), (7, .int .i64 l.length), (8, .int .i64 i)], [], 2⟩) _ ?_
  intro i hi ih s hs
  refine loop_s cd191 rfl rfl hs ?_
  refine wa_ (wc_region (w_ (b_ (h := wo_nil (e_ (h := aft_normal (wa_ (?_))))))))
  refine c_ (h1 := ?_) (h2 := ?_)
  rotate_right 1
  focus
   intro c1
   first
   | exact dn c1
   | (have d1 := c1; try simp at d1
      refine wc_exit (?_)
      )
  rotate_right 1
  focus
   intro c1
   first
   | exact dn c1
   | (have d1 := c1; try simp at d1
      have hw := wrap_succ (i := i) (by omega); obtain ⟨x, hx, e1, g1⟩ := ints_cut (l := l) (i := i) (by omega); have hq := hc x (List.mem_of_getElem? hx)
      refine wc_skip (?_)
      )
  all_goals first
  | refine aft_exit ?_
  | (refine aft_normal ?_
     refine wa_ (wc_block (wa_ (wc_region (w_ (m_ (h := w_ (a_ (h := wo_nil (e_ (h := aft_normal (wa_ (wc_region (w_ (m_ (h := w_ (m_ (h := ?_)))))))))))))))))
     refine w_ (m_ (h := w_ (x_ (h := w_ (l_ (h := w_ (?_)))))))
     refine k_callS rfl rfl (by rw [cf_in]; rfl) rfl (by rw [cf_md]; rfl) (by simp [cf_md, mdT]; rfl) (by first | rfl | simp [*]) hq rfl (by simp; rfl) (by simp [cf_md, mdT]) (by simp; rfl) (by simp; rfl) ?_
     refine wo_nil (e_ (h := aft_normal (?_)))
     refine c_ (h1 := ?_) (h2 := ?_)
     rotate_right 1
     focus
      intro c2
      first
      | exact dn c2
      | (have d2 := c2; try simp at d2
         refine wc_skip (?_)
         )
     rotate_right 1
     focus
      intro c2
      first
      | exact dn c2
      | (have d2 := c2; try simp at d2
         refine wa_ (wc_region (w_ (m_ (h := w_ (a_ (h := wo_nil (e_ (h := aft_normal (wc_ret (?_))))))))))
         )
     all_goals first | refine blk_normal ?_ | refine blk_ret ?_
     all_goals first
     | refine aft_ret ?_
     | (refine aft_normal ?_
        refine wc_region (w_ (b_ (h := w_ (m_ (h := wo_nil (e_ (h := ?_)))))))
        )
     )
  all_goals first
  | (refine (ih (i + 1) (by omega) ?_ _ ?_).trans ?_; (focus (first | omega | (simp; done) | (simp; omega))); (focus (simp [normE, hw]; done)); (focus (rw [e1]; simp only [idxP, if_neg (show ¬ p x = true by simp [d2])])))
  | (apply end_leaf (ex := Ext.ret) 2 (some [4]); (focus (simp [normE]; rfl)); (focus (rw [e1]; simp [idxP, d2])))
  | (apply end_leaf (ex := (Ext.exit 0)) 2 (some [4]); (focus (simp [normE]; rfl)); (focus (rw [List.drop_eq_nil_of_le (by omega)]; simp [idxP])))
theorem e_indexP (l : List Int) (pl : List Nd) (to : Int) (p : Int → Bool) (hl : l.length < 2000000) (hc : ∀ x ∈ l, oc.call 153 [.int .i64 x, .vptr (.lst false 0 (nds false 0 pl)), .vptr (.int .i64 to)] = some (.bool (p x), [])) : oc.call 191 [.lst false 0 (ints l), .clo 153 [.vptr (.lst false 0 (nds false 0 pl)), .vptr (.int .i64 to)]] = some (.int .i64 (if 0 ≤ idxP p 0 l then idxP p 0 l else -1), []) := by
  refine fun_s rfl cd191 rfl rfl rfl (by simp; rfl) (by simp; rfl) ?_
  refine wa_ (wc_region (w_ (a_ (h := wo_nil (e_ (h := aft_normal (wa_ (wa_ (wc_region (w_ (m_ (h := w_ (le (h := w_ (m_ (h := wo_nil (e_ (h := ?_))))))))))))))))))
  refine aft_normal (wc_block (?_))
  refine wc_loopI (l_indexP l pl to p hl hc 0 (by omega) _ (by simp [normE])) ?_ ?_
  rotate_right 1
  focus
   intro c1
   skip
  rotate_right 1
  focus
   intro c1
   skip
  all_goals first | refine blk_ret ?_ | refine blk_exit ?_
  all_goals first
  | refine aft_ret ?_
  | (refine aft_normal ?_
     refine wa_ (wc_region (w_ (a_ (h := wo_nil (e_ (h := aft_normal (wc_ret (?_))))))))
     )
  all_goals (refine fin_ (hr := (res_tmp rfl res_nil)) (h := ?_); (focus (clear hc; first | (simp_all; done) | (simp_all <;> omega))))
theorem e_anyP (l : List Int) (pl : List Nd) (to : Int) (p : Int → Bool) (hl : l.length < 2000000) (hc : ∀ x ∈ l, oc.call 153 [.int .i64 x, .vptr (.lst false 0 (nds false 0 pl)), .vptr (.int .i64 to)] = some (.bool (p x), [])) : oc.call 151 [.lst false 0 (ints l), .clo 153 [.vptr (.lst false 0 (nds false 0 pl)), .vptr (.int .i64 to)]] = some (.bool (l.any p), []) := by
  refine fun_s rfl cd151 rfl rfl rfl (by simp; rfl) (by simp; rfl) ?_
  refine wa_ (wc_region (w_ (a_ (h := wo_nil (e_ (h := aft_normal (wa_ (wc_region (w_ (m_ (h := w_ (m_ (h := w_ (ca (hc := e_indexP l pl to p hl hc) (h := w_ (b_ (h := w_ (a_ (h := ?_)))))))))))))))))))
  refine wo_nil (e_ (h := aft_normal (wc_ret (?_))))
  all_goals (refine fin_ (hr := (res_tmp rfl res_nil)) (h := ?_); (focus (clear hc; rw [← idxP_any (i := 0)]; simp; grind)))
end Go.Proofs.Ytmednhpmcplplaa.Ev
namespace Go.Proofs.Ytmednhpmcplplaa.Ev
open Go
set_option maxRecDepth 100000
set_option linter.unusedSimpArgs false
set_option linter.unusedVariables false
set_option maxHeartbeats 2000000
def Wf (pl : List Nd) : Prop := ∀ (n : Nat) d, pl[n]? = some d → fitN d n
theorem lookR_wf {pl : List Nd} (hp : pl.length < 2000000) : ∀ (r : List Nd) (ws : List Int), r = pl.drop ws.length → (lookR pl r ws).2 = 0 → ∀ (n : Nat) d, ws.length ≤ n → pl[n]? = some d → fitN d n
  | [], ws, e, _, n, d, hn, hd => by
    have : pl.length ≤ ws.length := by
      have := congrArg List.length e; simp at this; omega
    have := (List.getElem?_eq_some_iff.mp hd).1
    omega
  | x :: r, ws, e, h, n, d, hn, hd => by
    unfold lookR at h
    have hx : pl[ws.length]? = some x := by
      have := congrArg (fun l => l[0]?) e
      simpa using this.symm
    have hr : r = pl.drop (ws.length + 1) := by
      have := congrArg List.tail e
      simpa [List.tail_drop] using this
    split at h
    · rename_i hs
      by_cases hc : n = ws.length
      · subst hc
        rw [hx] at hd
        cases hd
        exact step_ok (by have := (List.getElem?_eq_some_iff.mp hx).1; omega) hs
      · exact lookR_wf hp r (ws ++ [widthN x ws]) (by simpa using hr) h n d (by simp; omega) hd
    · exact absurd h ‹_›
theorem look_wf {pl : List Nd} (h : (lookN pl).2 = 0) : Wf pl := by
  unfold lookN at h
  split at h
  · cases h
  · rename_i hl
    simp [inI] at hl
    split at h
    · exact fun n d hd => lookR_wf (by omega) pl [] rfl h n d (by simp) hd
    · exact absurd h ‹_›
theorem rd_mem {a m : Int} : ∀ {l : List Nd} {i : Nat}, m ∈ rdFrom a i l → ∃ (k : Nat) (d : Nd), m = ((i + k : Nat) : Int) ∧ l[k]? = some d ∧ readsFrom d a = true
  | [], i, h => by simp [rdFrom] at h
  | d :: r, i, h => by
    unfold rdFrom at h
    split at h
    · rename_i hd
      rcases List.mem_cons.mp h with h | h
      · exact ⟨0, d, by simpa using h, rfl, hd⟩
      · obtain ⟨k, e, h1, h2, h3⟩ := rd_mem h
        exact ⟨k + 1, e, by rw [h1]; congr 1; omega, by simpa using h2, h3⟩
    · obtain ⟨k, e, h1, h2, h3⟩ := rd_mem h
      exact ⟨k + 1, e, by rw [h1]; congr 1; omega, by simpa using h2, h3⟩
theorem reads_fit {d : Nd} {n : Nat} {a : Int} (h : fitN d n) (hr : readsFrom d a = true) : 0 ≤ a ∧ a < n := by
  obtain ⟨h1, h2⟩ := h
  unfold readsFrom readsN at hr
  split at hr
  · simp at hr
  · split at hr
    · simp at hr
      rcases hr with rfl | rfl
      · exact h1 ‹_›
      · exact h2 ‹_›
    · simp at hr
      subst hr
      exact h1 ‹_›
theorem rd_gt {pl : List Nd} (W : Wf pl) {a m : Int} (h : m ∈ rdFrom a 0 pl) : 0 ≤ a ∧ a < m ∧ m < pl.length := by
  obtain ⟨k, d, rfl, h2, h3⟩ := rd_mem h
  have := reads_fit (W k d h2) h3
  have := (List.getElem?_eq_some_iff.mp h2).1
  simp only [Nat.zero_add]
  omega
theorem rd_len (a : Int) : ∀ (l : List Nd) (i : Nat), (rdFrom a i l).length ≤ l.length
  | [], i => by simp [rdFrom]
  | d :: r, i => by
    unfold rdFrom
    have := rd_len a r (i + 1)
    split <;> simp <;> omega
def leadsF (pl : List Nd) (to : Int) : Nat → Int → Bool
  | 0, _ => false
  | n + 1, a => if a = to then true else if a.tmod 2 = 0 then leadsF pl to n (a + 1) else (rdFrom (a / 2) 0 pl).any fun m => leadsF pl to n (2 * m)
theorem leads_low {pl : List Nd} (W : Wf pl) {to : Int} : ∀ (n : Nat) (b : Int), 0 ≤ b → to < b → leadsF pl to n b = false
  | 0, _, _, _ => rfl
  | n + 1, b, h0, h => by
    unfold leadsF
    rw [if_neg (by omega)]
    split
    · exact leads_low W n _ (by omega) (by omega)
    · rw [List.any_eq_false]
      intro m hm
      have := rd_gt W hm
      simp only [leads_low (to := to) W n (2 * m) (by omega) (by omega), Bool.false_eq_true, not_false_eq_true]
theorem e_leads (pl : List Nd) (to : Int) (hp : pl.length < 2000000) (hk : okN pl) (W : Wf pl) : ∀ (n : Nat) (a : Int), 0 ≤ a → a < 2 * pl.length → 2 * pl.length - a ≤ n → oc.call 95 [.lst false 0 (nds false 0 pl), .int .i64 a, .int .i64 to] = some (.bool (leadsF pl to n a), []) := by
  intro n
  induction n with
  | zero => intro a h0 h1 h2; omega
  | succ n ih =>
    intro a h0 h1 h2
    have ih' : ∀ b : Int, a < b → b < 2 * pl.length → oc.call 95 [.lst false 0 (nds false 0 pl), .int .i64 b, .int .i64 to] = some (.bool (leadsF pl to n b), []) := fun b h3 h4 => ih b (by omega) h4 (by omega)
    have hm : a.tmod 2 = a % 2 := Int.tmod_eq_emod_of_nonneg h0
    have hd : a.tdiv 2 = a / 2 := Int.tdiv_eq_ediv_of_nonneg h0
    have hw : IntKind.i64.wrap (a + 1) = a + 1 := wrap_id (by omega) (by omega)
    have hw2 : IntKind.i64.wrap (a / 2) = a / 2 := wrap_id (by omega) (by omega)
    have hclo : ∀ x ∈ rdFrom (a / 2) 0 pl, a % 2 ≠ 0 → oc.call 153 [.int .i64 x, .vptr (.lst false 0 (nds false 0 pl)), .vptr (.int .i64 to)] = some (.bool (leadsF pl to n (2 * x)), []) := by
      intro x hx ho
      have hg := rd_gt W hx
      have hw3 : IntKind.i64.wrap (2 * x) = 2 * x := wrap_id (by omega) (by omega)
      refine fun_s rfl cd153 rfl rfl rfl (by simp; rfl) (by simp; rfl) ?_
      refine wa_ (wc_region (w_ (a_ (h := wo_nil (e_ (h := aft_normal (wa_ (wc_region (w_ (l_ (h := w_ (m_ (h := w_ (b_ (h := w_ (l_ (h := w_ (ca (hc := (hw3.symm ▸ ih' (2 * x) (by omega) (by omega))) (h := ?_)))))))))))))))))))
      refine w_ (a_ (h := wo_nil (e_ (h := aft_normal (wc_ret (?_))))))
      all_goals (refine fin_ (hr := (res_tmp rfl res_nil)) (h := ?_); (focus (first | (simp_all; done) | (simp_all <;> omega) | (simp_all <;> split <;> simp_all <;> omega))))
    refine fun_s rfl cd95 rfl rfl rfl (by simp; rfl) (by simp; rfl) ?_
    refine wa_ (wc_region (w_ (bx (h := w_ (bx (h := w_ (a_ (h := wo_nil (e_ (h := aft_normal (wa_ (wa_ (wc_region (w_ (m_ (h := w_ (l_ (h := ?_))))))))))))))))))
    refine w_ (bE (h := wo_nil (e_ (h := aft_normal (?_)))))
    refine c_ (h1 := ?_) (h2 := ?_)
    rotate_right 1
    focus
     intro c1
     refine wc_skip (?_)
    rotate_right 1
    focus
     intro c1
     refine wa_ (wc_region (w_ (a_ (h := wo_nil (e_ (h := aft_normal (wc_ret (?_))))))))
    all_goals first
    | refine aft_ret ?_
    | (refine aft_normal ?_
       refine wa_ (wa_ (wc_region (w_ (m_ (h := w_ (b_ (h := w_ (bE (h := wo_nil (e_ (h := aft_normal (?_))))))))))))
       refine c_ (h1 := ?_) (h2 := ?_)
       rotate_right 1
       focus
        intro c2
        simp [hm] at c2
        refine wc_skip (?_)
       rotate_right 1
       focus
        intro c2
        simp [hm] at c2
        refine wa_ (wc_region (w_ (l_ (h := w_ (m_ (h := w_ (b_ (h := w_ (l_ (h := w_ (ca (hc := (hw.symm ▸ ih' (a + 1) (by omega) (by omega))) (h := w_ (a_ (h := wo_nil (e_ (h := aft_normal (wc_ret (?_))))))))))))))))))
       all_goals first
       | refine aft_ret ?_
       | (refine aft_normal ?_
          refine wa_ (wc_region (w_ (l_ (h := w_ (m_ (h := w_ (b_ (h := w_ (ca (hc := (by rw [hd, hw2]; exact e_readersI pl (a / 2) hp hk)) (h := w_ (mf (h := w_ (ca (hc := e_anyP (rdFrom (a / 2) 0 pl) pl to (fun m => leadsF pl to n (2 * m)) (by have := rd_len (a / 2) pl 0; omega) (fun x hx => hclo x hx (by omega))) (h := w_ (a_ (h := wo_nil (e_ (h := aft_normal (wc_ret (?_))))))))))))))))))))
          )
       )
    all_goals (refine fin_ (hr := (res_tmp rfl res_nil)) (h := ?_); (focus (clear ih ih' hclo hk W; first | (simp_all [leadsF]; done) | grind [leadsF])))
end Go.Proofs.Ytmednhpmcplplaa.Ev
namespace Go.Proofs.Ytmednhpmcplplaa.Ev
open Go
set_option maxRecDepth 100000
set_option linter.unusedSimpArgs false
set_option linter.unusedVariables false
set_option maxHeartbeats 2000000
theorem l_leadsS (pl : List Nd) (to : Int) (n : Nat) (rs : List Int) (hr : rs.length < 2000000) (hb : ∀ m ∈ rs, 0 ≤ m ∧ m < 2000000) (hrec : ∀ m ∈ rs, oc.call 99 [.lst false 0 (nds false 0 pl), .int .i64 (2 * m), .int .i64 to] = some (.bool (leadsF pl to n (2 * m)), [])) : ∀ i : Nat, (i ≤ rs.length) → ∀ s, normE 3 (some [0, 2, 7, 8]) s = ⟨[(0, .lst false 0 (nds false 0 pl)), (2, .int .i64 to), (7, .ref 3 0 rs.length), (8, .int .i64 i)], [(3, ⟨false, false, 1, ints rs, 0⟩)], 4⟩ →
    oc.loop 99 7 s = some (if (rs.drop i).any (fun m => decide (2 * m ≤ to) && leadsF pl to n (2 * m)) = true then (.ret, ⟨[(6, .bool true)], [], 3⟩) else (.exit 0, ⟨[], [], 3⟩)) := by
  refine loop_ind (σ := Nat) (fun i => rs.length - i) _ (fun i => ⟨[(0, .lst false 0 (nds false 0 pl)), (2, .int .i64 to), (7, .ref 3 0 rs.length), (8, .int .i64 i)], [(3, ⟨false, false, 1, ints rs, 0⟩)], 4⟩) _ ?_
  intro i hi ih s hs
  refine loop_s cd99 rfl rfl hs ?_
  refine wa_ (wa_ (wc_region (w_ (m_ (h := w_ (m_ (h := w_ (le (h := w_ (b_ (h := wo_nil (e_ (h := aft_normal (?_))))))))))))))
  refine c_ (h1 := ?_) (h2 := ?_)
  rotate_right 1
  focus
   intro c1
   first
   | exact dn c1
   | (have d1 := c1; try simp at d1
      refine wc_exit (?_)
      )
  rotate_right 1
  focus
   intro c1
   first
   | exact dn c1
   | (have d1 := c1; try simp at d1
      have hw := wrap_succ (i := i) (by omega); obtain ⟨x, hx, e1, g1⟩ := ints_cut (l := rs) (i := i) (by omega); simp at g1; have hm := List.mem_of_getElem? hx; obtain ⟨b1, b2⟩ := hb x hm; have hw3 : IntKind.i64.wrap (2 * x) = 2 * x := wrap_id (by omega) (by omega)
      refine wc_skip (?_)
      )
  all_goals first
  | refine aft_exit ?_
  | (refine aft_normal ?_
     refine wa_ (wc_block (wa_ (wc_region (w_ (m_ (h := w_ (m_ (h := w_ (x_ (h := w_ (l_ (h := w_ (b_ (h := w_ (m_ (h := w_ (b_ (h := w_ (m_ (h := ?_))))))))))))))))))))
     refine gw_ (h1 := ?_) (h2 := ?_)
     rotate_right 1
     focus
      intro c2
      first
      | exact dn c2
      | (have d2 := c2; try simp at d2
         refine go_ (h := go_ (h := go_ (h := go_ (h := go_ (h := go_ (h := go_ (h := go_ (h := ?_))))))))
         )
     rotate_right 1
     focus
      intro c2
      first
      | exact dn c2
      | (have d2 := c2; try simp at d2
         refine g_ (h := w_ (m_ (h := g_ (h := w_ (m_ (h := g_ (h := w_ (m_ (h := g_ (h := w_ (x_ (h := g_ (h := w_ (l_ (h := g_ (h := w_ (b_ (h := g_ (h := w_ (m_ (h := g_ (h := w_ (ca (hc := hw3.symm ▸ hrec x hm) (h := ?_))))))))))))))))))))))))
         )
     all_goals
      refine w_ (pk (h := wo_nil (e_ (h := ?_))))
     all_goals first
     | (refine aft_normal ?_
        refine c_ (h1 := ?_) (h2 := ?_)
        rotate_right 1
        focus
         intro c3
         first
         | exact dn c3
         | (have d3 := c3; try simp at d3
            refine wc_skip (?_)
            )
        rotate_right 1
        focus
         intro c3
         first
         | exact dn c3
         | (have d3 := c3; try simp at d3
            refine wa_ (wc_region (w_ (a_ (h := wo_nil (e_ (h := aft_normal (wc_ret (?_))))))))
            )
        )
     all_goals first | refine blk_normal ?_ | refine blk_ret ?_
     all_goals first
     | refine aft_ret ?_
     | (refine aft_normal ?_
        refine wc_region (w_ (m_ (h := w_ (b_ (h := w_ (a_ (h := wo_nil (e_ (h := ?_)))))))))
        )
     )
  all_goals first
  | (refine (ih (i + 1) (by omega) ?_ _ ?_).trans ?_; (focus (first | omega | (simp; done) | (simp; omega))); (focus (simp [normE, hw]; done)); (focus (rw [e1]; simp [hw3] at *; grind)))
  | (apply end_leaf (ex := Ext.ret) 3 (some [6]); (focus (simp [normE]; rfl)); (focus (rw [e1]; simp [hw3] at *; grind)))
  | (apply end_leaf (ex := (Ext.exit 0)) 3 (some [6]); (focus (simp [normE]; rfl)); (focus (rw [List.drop_eq_nil_of_le (by omega)]; simp)))
theorem any_low {pl : List Nd} (W : Wf pl) {to : Int} {n : Nat} : ∀ {rs : List Int}, (∀ m ∈ rs, 0 ≤ m) → rs.any (fun m => decide (2 * m ≤ to) && leadsF pl to n (2 * m)) = rs.any (fun m => leadsF pl to n (2 * m))
  | [], _ => rfl
  | x :: r, h => by
    simp only [List.any_cons]
    rw [any_low W (fun m hm => h m (List.mem_cons_of_mem _ hm))]
    by_cases hx : 2 * x ≤ to
    · simp [hx]
    · have h0 := h x (List.mem_cons_self ..)
      rw [leads_low (to := to) W n (2 * x) (by omega) (by omega)]
      simp
theorem e_leadsS (pl : List Nd) (to : Int) (hp : pl.length < 2000000) (hk : okN pl) (W : Wf pl) : ∀ (n : Nat) (a : Int), 0 ≤ a → a < 2 * pl.length → 2 * pl.length - a ≤ n → oc.call 99 [.lst false 0 (nds false 0 pl), .int .i64 a, .int .i64 to] = some (.bool (leadsF pl to n a), []) := by
  intro n
  induction n with
  | zero => intro a h0 h1 h2; omega
  | succ n ih =>
    intro a h0 h1 h2
    have ih' : ∀ b : Int, a < b → b < 2 * pl.length → oc.call 99 [.lst false 0 (nds false 0 pl), .int .i64 b, .int .i64 to] = some (.bool (leadsF pl to n b), []) := fun b h3 h4 => ih b (by omega) h4 (by omega)
    have hm : a.tmod 2 = a % 2 := Int.tmod_eq_emod_of_nonneg h0
    have hd : a.tdiv 2 = a / 2 := Int.tdiv_eq_ediv_of_nonneg h0
    have hw : IntKind.i64.wrap (a + 1) = a + 1 := wrap_id (by omega) (by omega)
    have hw2 : IntKind.i64.wrap (a / 2) = a / 2 := wrap_id (by omega) (by omega)
    have hl : (rdFrom (a / 2) 0 pl).length < 2000000 := by have := rd_len (a / 2) pl 0; omega
    have hal := any_low (to := to) W (n := n) (rs := rdFrom (a / 2) 0 pl) (fun m hm => by have := rd_gt W hm; omega)
    refine fun_s rfl cd99 rfl rfl rfl (by simp; rfl) (by simp; rfl) ?_
    refine wa_ (wc_region (w_ (a_ (h := wo_nil (e_ (h := aft_normal (wa_ (wa_ (wc_region (w_ (m_ (h := w_ (m_ (h := w_ (bE (h := wo_nil (e_ (h := ?_))))))))))))))))))
    refine aft_normal (?_)
    refine c_ (h1 := ?_) (h2 := ?_)
    rotate_right 1
    focus
     intro c1
     refine wc_skip (?_)
    rotate_right 1
    focus
     intro c1
     refine wa_ (wc_region (w_ (a_ (h := wo_nil (e_ (h := aft_normal (wc_ret (?_))))))))
    all_goals first
    | refine aft_ret ?_
    | (refine aft_normal ?_
       refine wa_ (wa_ (wc_region (w_ (m_ (h := w_ (b_ (h := w_ (bE (h := wo_nil (e_ (h := aft_normal (?_))))))))))))
       refine c_ (h1 := ?_) (h2 := ?_)
       rotate_right 1
       focus
        intro c2
        simp [hm] at c2
        refine wc_skip (?_)
       rotate_right 1
       focus
        intro c2
        simp [hm] at c2
        refine wa_ (wc_region (w_ (m_ (h := w_ (m_ (h := w_ (b_ (h := w_ (m_ (h := w_ (ca (hc := hw.symm ▸ ih' (a + 1) (by omega) (by omega)) (h := w_ (a_ (h := wo_nil (e_ (h := aft_normal (wc_ret (?_))))))))))))))))))
       all_goals first
       | refine aft_ret ?_
       | (refine aft_normal ?_
          refine wa_ (wc_region (w_ (m_ (h := w_ (m_ (h := w_ (b_ (h := w_ (ca (hc := (by rw [hd, hw2]; exact e_readersS pl (a / 2) hp hk)) (h := w_ (a_ (h := wo_nil (e_ (h := aft_normal (wa_ (wa_ (wc_region (?_))))))))))))))))))
          refine w_ (a_ (h := wo_nil (e_ (h := aft_normal (wc_block (?_))))))
          refine wc_loopI (l_leadsS pl to n (rdFrom (a / 2) 0 pl) hl (fun m hm => by have := rd_gt W hm; omega) (fun m hm => ih' (2 * m) (by have := rd_gt W hm; omega) (by have := rd_gt W hm; omega)) 0 (by omega) _ (by simp [normE])) ?_ ?_
          rotate_right 1
          focus
           intro c3
           skip
          rotate_right 1
          focus
           intro c3
           skip
          all_goals first | refine blk_ret ?_ | refine blk_exit ?_
          all_goals first
          | refine aft_ret ?_
          | (refine aft_normal ?_
             refine wa_ (wc_region (w_ (a_ (h := wo_nil (e_ (h := aft_normal (wc_ret (?_))))))))
             )
          )
       )
    all_goals (refine fin_ (hr := (res_tmp rfl res_nil)) (h := ?_); (focus (clear ih ih' hk W; simp only [List.drop_zero, hal] at *; first | (simp_all [leadsF]; done) | grind [leadsF])))
def leadsN (pl : List Nd) (a to : Int) : Bool := decide ((lookN pl).2 = 0) && (isPl pl a && (isPl pl to && leadsF pl to (2 * pl.length) a))
theorem e_leadsToI (pl : List Nd) (a to : Int) (hp : pl.length < 2000000) (hk : okN pl) : oc.call 32 [.lst false 0 (nds false 0 pl), .int .i64 a, .int .i64 to] = some (.bool (leadsN pl a to), []) := by
  refine fun_s rfl cd32 rfl rfl rfl (by simp; rfl) (by simp; rfl) ?_
  refine wa_ (wc_region (w_ (a_ (h := wo_nil (e_ (h := aft_normal (wa_ (wc_region (w_ (m_ (h := w_ (ca (hc := e_planI pl hp hk) (h := w_ (bE (h := w_ (m_ (h := ?_)))))))))))))))))
  refine gw_ (h1 := ?_) (h2 := ?_)
  rotate_right 1
  focus
   intro c1
   first
   | exact dn c1
   | (have d1 := c1; try simp at d1
      refine go_ (h := go_ (h := go_ (h := ?_)))
      )
  rotate_right 1
  focus
   intro c1
   first
   | exact dn c1
   | (have d1 := c1; try simp at d1
      refine g_ (h := w_ (m_ (h := g_ (h := w_ (m_ (h := g_ (h := w_ (ca (hc := e_isPlace pl _ hp) (h := ?_)))))))))
      )
  all_goals
   refine w_ (pk (h := w_ (m_ (h := ?_))))
   refine gw_ (h1 := ?_) (h2 := ?_)
   rotate_right 1
   focus
    intro c2
    first
    | exact dn c2
    | (have d2 := c2; try simp at d2
       refine go_ (h := go_ (h := go_ (h := ?_)))
       )
   rotate_right 1
   focus
    intro c2
    first
    | exact dn c2
    | (have d2 := c2; try simp at d2
       refine g_ (h := w_ (m_ (h := g_ (h := w_ (m_ (h := g_ (h := w_ (ca (hc := e_isPlace pl _ hp) (h := ?_)))))))))
       )
   all_goals
    refine w_ (pk (h := w_ (m_ (h := ?_))))
    refine gw_ (h1 := ?_) (h2 := ?_)
    rotate_right 1
    focus
     intro c3
     first
     | exact dn c3
     | (have d3 := c3; try simp at d3
        refine go_ (h := go_ (h := go_ (h := go_ (h := ?_))))
        )
    rotate_right 1
    focus
     intro c3
     first
     | exact dn c3
     | (have d3 := c3; try simp at d3
        simp [isPl, inI] at d2 d3
        refine g_ (h := w_ (m_ (h := g_ (h := w_ (m_ (h := g_ (h := w_ (m_ (h := g_ (h := w_ (ca (hc := e_leads pl to hp hk (look_wf d1) (2 * pl.length) a (by omega) (by omega) (by omega)) (h := ?_))))))))))))
        )
    all_goals
     refine w_ (pk (h := w_ (a_ (h := wo_nil (e_ (h := ?_))))))
  all_goals first
  | (refine aft_normal ?_
     refine wc_ret (?_)
     )
  all_goals (refine fin_ (hr := (res_tmp rfl res_nil)) (h := ?_); (focus (simp; grind [leadsN])))
theorem e_leadsToS (pl : List Nd) (a to : Int) (hp : pl.length < 2000000) (hk : okN pl) : oc.call 35 [.lst false 0 (nds false 0 pl), .int .i64 a, .int .i64 to] = some (.bool (leadsN pl a to), []) := by
  refine fun_s rfl cd35 rfl rfl rfl (by simp; rfl) (by simp; rfl) ?_
  refine wa_ (wc_region (w_ (a_ (h := wo_nil (e_ (h := aft_normal (wa_ (wc_region (w_ (m_ (h := w_ (ca (hc := e_planS pl hp hk) (h := w_ (bE (h := w_ (m_ (h := ?_)))))))))))))))))
  refine gw_ (h1 := ?_) (h2 := ?_)
  rotate_right 1
  focus
   intro c1
   first
   | exact dn c1
   | (have d1 := c1; try simp at d1
      refine go_ (h := go_ (h := go_ (h := ?_)))
      )
  rotate_right 1
  focus
   intro c1
   first
   | exact dn c1
   | (have d1 := c1; try simp at d1
      refine g_ (h := w_ (m_ (h := g_ (h := w_ (m_ (h := g_ (h := w_ (ca (hc := e_l7Place pl _ hp) (h := ?_)))))))))
      )
  all_goals
   refine w_ (pk (h := w_ (m_ (h := ?_))))
   refine gw_ (h1 := ?_) (h2 := ?_)
   rotate_right 1
   focus
    intro c2
    first
    | exact dn c2
    | (have d2 := c2; try simp at d2
       refine go_ (h := go_ (h := go_ (h := ?_)))
       )
   rotate_right 1
   focus
    intro c2
    first
    | exact dn c2
    | (have d2 := c2; try simp at d2
       refine g_ (h := w_ (m_ (h := g_ (h := w_ (m_ (h := g_ (h := w_ (ca (hc := e_l7Place pl _ hp) (h := ?_)))))))))
       )
   all_goals
    refine w_ (pk (h := w_ (m_ (h := ?_))))
    refine gw_ (h1 := ?_) (h2 := ?_)
    rotate_right 1
    focus
     intro c3
     first
     | exact dn c3
     | (have d3 := c3; try simp at d3
        refine go_ (h := go_ (h := go_ (h := go_ (h := ?_))))
        )
    rotate_right 1
    focus
     intro c3
     first
     | exact dn c3
     | (have d3 := c3; try simp at d3
        simp [isPl, inI] at d2 d3
        refine g_ (h := w_ (m_ (h := g_ (h := w_ (m_ (h := g_ (h := w_ (m_ (h := g_ (h := w_ (ca (hc := e_leadsS pl to hp hk (look_wf d1) (2 * pl.length) a (by omega) (by omega) (by omega)) (h := ?_))))))))))))
        )
    all_goals
     refine w_ (pk (h := w_ (a_ (h := wo_nil (e_ (h := ?_))))))
  all_goals first
  | (refine aft_normal ?_
     refine wc_ret (?_)
     )
  all_goals (refine fin_ (hr := (res_tmp rfl res_nil)) (h := ?_); (focus (simp; grind [leadsN])))
end Go.Proofs.Ytmednhpmcplplaa.Ev
namespace Go.Proofs.Ytmednhpmcplplaa.Ev
open Go
set_option maxRecDepth 100000
set_option linter.unusedSimpArgs false
set_option linter.unusedVariables false
set_option maxHeartbeats 2000000
def cmpI (a b : Int) : Int := if a < b then -1 else if b < a then 1 else 0
theorem e_nan (a : Int) : oc.call 203 [.int .i64 a] = some (.bool false, []) := by
  refine fun_s rfl cd203 rfl rfl rfl (by simp; rfl) (by simp; rfl) ?_
  refine wa_ (wc_region (w_ (a_ (h := wo_nil (e_ (h := aft_normal (wa_ (wc_region (w_ (m_ (h := w_ (m_ (h := w_ (bE (h := w_ (a_ (h := wo_nil (e_ (h := ?_)))))))))))))))))))
  refine aft_normal (wc_ret (?_))
  all_goals (refine fin_ (hr := (res_tmp rfl res_nil)) (h := ?_); (focus (first | (simp_all; done) | (simp_all <;> omega) | (simp_all <;> split <;> simp_all <;> omega))))
theorem e_cmp (a b : Int) : oc.call 186 [.int .i64 a, .int .i64 b] = some (.int .i64 (cmpI a b), []) := by
  refine fun_s rfl cd186 rfl rfl rfl (by simp; rfl) (by simp; rfl) ?_
  refine wa_ (wc_region (w_ (a_ (h := wo_nil (e_ (h := aft_normal (wa_ (wc_region (w_ (m_ (h := w_ (ca (hc := e_nan _) (h := w_ (a_ (h := wo_nil (e_ (h := aft_normal (?_))))))))))))))))))
  refine wa_ (wc_region (w_ (m_ (h := w_ (ca (hc := e_nan _) (h := w_ (a_ (h := wo_nil (e_ (h := aft_normal (wa_ (wa_ (wc_region (w_ (m_ (h := wo_nil (e_ (h := ?_))))))))))))))))))
  refine aft_normal (?_)
  refine c_ (h1 := ?_) (h2 := ?_)
  rotate_right 1
  focus
   intro c1
   first
   | exact dn c1
   | (have d1 := c1; try simp at d1
      refine wc_skip (?_)
      )
  rotate_right 1
  focus
   intro c1
   first
   | exact dn c1
   | (have d1 := c1; try simp at d1
      refine wa_ (wa_ (wc_region (w_ (m_ (h := wo_nil (e_ (h := aft_normal (?_))))))))
      refine c_ (h1 := ?_) (h2 := ?_)
      rotate_right 1
      focus
       intro c2
       first
       | exact dn c2
       | (have d2 := c2; try simp at d2
          refine wc_skip (?_)
          )
      rotate_right 1
      focus
       intro c2
       first
       | exact dn c2
       | (have d2 := c2; try simp at d2
          refine wa_ (wc_region (w_ (a_ (h := wo_nil (e_ (h := aft_normal (wc_ret (?_))))))))
          )
      all_goals first
      | refine aft_ret ?_
      | (refine aft_normal ?_
         refine wa_ (wc_region (w_ (a_ (h := wo_nil (e_ (h := aft_normal (wc_ret (?_))))))))
         )
      )
  all_goals first
  | refine aft_ret ?_
  | (refine aft_normal ?_
     refine wa_ (wa_ (wc_region (w_ (m_ (h := wo_nil (e_ (h := aft_normal (?_))))))))
     refine c_ (h1 := ?_) (h2 := ?_)
     rotate_right 1
     focus
      intro c3
      first
      | exact dn c3
      | (have d3 := c3; try simp at d3
         refine wc_skip (?_)
         )
     rotate_right 1
     focus
      intro c3
      first
      | exact dn c3
      | (have d3 := c3; try simp at d3
         refine wa_ (wc_region (w_ (a_ (h := wo_nil (e_ (h := aft_normal (wc_ret (?_))))))))
         )
     all_goals first
     | refine aft_ret ?_
     | (refine aft_normal ?_
        refine wa_ (wa_ (wc_region (w_ (m_ (h := w_ (m_ (h := w_ (b_ (h := wo_nil (e_ (h := aft_normal (?_))))))))))))
        refine c_ (h1 := ?_) (h2 := ?_)
        rotate_right 1
        focus
         intro c4
         first
         | exact dn c4
         | (have d4 := c4; try simp at d4
            refine wc_skip (?_)
            )
        rotate_right 1
        focus
         intro c4
         first
         | exact dn c4
         | (have d4 := c4; try simp at d4
            refine wa_ (wc_region (w_ (a_ (h := wo_nil (e_ (h := aft_normal (wc_ret (?_))))))))
            )
        all_goals first
        | refine aft_ret ?_
        | (refine aft_normal ?_
           refine wa_ (wa_ (wc_region (w_ (m_ (h := w_ (m_ (h := w_ (b_ (h := wo_nil (e_ (h := aft_normal (?_))))))))))))
           refine c_ (h1 := ?_) (h2 := ?_)
           rotate_right 1
           focus
            intro c5
            first
            | exact dn c5
            | (have d5 := c5; try simp at d5
               refine wc_skip (?_)
               )
           rotate_right 1
           focus
            intro c5
            first
            | exact dn c5
            | (have d5 := c5; try simp at d5
               refine wa_ (wc_region (w_ (a_ (h := wo_nil (e_ (h := aft_normal (wc_ret (?_))))))))
               )
           all_goals first
           | refine aft_ret ?_
           | (refine aft_normal ?_
              refine wa_ (wc_region (w_ (a_ (h := wo_nil (e_ (h := aft_normal (wc_ret (?_))))))))
              )
           )
        )
     )
  all_goals (refine fin_ (hr := (res_tmp rfl res_nil)) (h := ?_); (focus (simp [cmpI]; grind)))
theorem l_or (a b : Int) : ∀ i : Nat, (i ≤ 2) → ∀ s, normE 1 (some [3, 6, 7, 8]) s = ⟨[(3, .int .i64 0), (6, .lst false 0 (ints [a, b])), (7, .int .i64 2), (8, .int .i64 i)], [], 1⟩ →
    oc.loop 195 3 s = some (if ([a, b].drop i).all (fun x => decide (x = 0)) = true then (.exit 0, ⟨[(3, .int .i64 0)], [], 1⟩) else (.ret, ⟨[(2, .int .i64 (if i = 0 ∧ a ≠ 0 then a else b)), (3, .int .i64 0)], [], 1⟩)) := by
  refine loop_ind (σ := Nat) (fun i => 2 - i) _ (fun i => ⟨[(3, .int .i64 0), (6, .lst false 0 (ints [a, b])), (7, .int .i64 2), (8, .int .i64 i)], [], 1⟩) _ ?_
  intro i hi ih s hs
  refine loop_s cd195 rfl rfl hs ?_
  refine wa_ (wc_region (w_ (b_ (h := wo_nil (e_ (h := aft_normal (wa_ (?_))))))))
  refine c_ (h1 := ?_) (h2 := ?_)
  rotate_right 1
  focus
   intro c1
   first
   | exact dn c1
   | (have d1 := c1; try simp at d1
      have : i = 2 := (by omega); subst this
      refine wc_exit (?_)
      )
  rotate_right 1
  focus
   intro c1
   first
   | exact dn c1
   | (have d1 := c1; try simp at d1
      have hw := wrap_succ (i := i) (by omega); obtain ⟨x, hx, e1, g1⟩ := ints_cut (l := [a, b]) (i := i) (by simp; omega)
      refine wc_skip (?_)
      )
  all_goals first
  | refine aft_exit ?_
  | (refine aft_normal ?_
     refine wa_ (wc_block (wa_ (wc_region (w_ (x_ (h := w_ (l_ (h := w_ (a_ (h := wo_nil (e_ (h := aft_normal (wa_ (wc_region (w_ (m_ (h := ?_)))))))))))))))))
     refine w_ (m_ (h := w_ (bE (h := wo_nil (e_ (h := aft_normal (?_)))))))
     refine c_ (h1 := ?_) (h2 := ?_)
     rotate_right 1
     focus
      intro c2
      first
      | exact dn c2
      | (have d2 := c2; try simp at d2
         refine wc_skip (?_)
         )
     rotate_right 1
     focus
      intro c2
      first
      | exact dn c2
      | (have d2 := c2; try simp at d2
         refine wa_ (wc_region (w_ (m_ (h := w_ (a_ (h := wo_nil (e_ (h := aft_normal (wc_ret (?_))))))))))
         )
     all_goals first | refine blk_normal ?_ | refine blk_ret ?_
     all_goals first
     | refine aft_ret ?_
     | (refine aft_normal ?_
        refine wc_region (w_ (b_ (h := w_ (m_ (h := wo_nil (e_ (h := ?_)))))))
        )
     )
  all_goals first
  | (refine (ih (i + 1) (by omega) ?_ _ ?_).trans ?_; (focus (first | omega | (simp; done) | (simp; omega))); (focus (simp [normE, hw]; done)); (focus (rcases i with _ | _ | i <;> simp at * <;> grind)))
  | (apply end_leaf (ex := Ext.ret) 1 (some [2, 3]); (focus (simp [normE]; rfl)); (focus (rcases i with _ | _ | i <;> simp at * <;> grind)))
  | (apply end_leaf (ex := (Ext.exit 0)) 1 (some [2, 3]); (focus (simp [normE]; rfl)); (focus (simp)))
theorem e_or (a b : Int) : oc.call 195 [.lst false 0 (ints [a, b])] = some (.int .i64 (if a = 0 then b else a), []) := by
  refine fun_s rfl cd195 rfl rfl rfl (by simp; rfl) (by simp; rfl) ?_
  refine wa_ (wc_region (w_ (a_ (h := wo_nil (e_ (h := aft_normal (wa_ (wc_region (w_ (a_ (h := wo_nil (e_ (h := aft_normal (wa_ (wa_ (?_))))))))))))))))
  refine wc_region (w_ (m_ (h := w_ (le (h := w_ (m_ (h := wo_nil (e_ (h := aft_normal (wc_block (?_)))))))))))
  refine wc_loopI (l_or a b 0 (by omega) _ (by simp [normE])) ?_ ?_
  rotate_right 1
  focus
   intro c1
   skip
  rotate_right 1
  focus
   intro c1
   skip
  all_goals first | refine blk_ret ?_ | refine blk_exit ?_
  all_goals first
  | refine aft_ret ?_
  | (refine aft_normal ?_
     refine wa_ (wc_region (w_ (m_ (h := w_ (a_ (h := wo_nil (e_ (h := aft_normal (wc_ret (?_))))))))))
     )
  all_goals (refine fin_ (hr := (res_tmp rfl res_nil)) (h := ?_); (focus (simp at * <;> grind)))
def byC (a b : Ct) : Int := if cmpI a.pl b.pl = 0 then cmpI a.ep b.ep else cmpI a.pl b.pl
theorem e_byC (a b : Ct) : oc.call 161 [a.v, b.v] = some (.int .i64 (byC a b), []) := by
  refine fun_s rfl cd161 rfl rfl rfl (by simp; rfl) (by simp; rfl) ?_
  refine wa_ (wc_region (w_ (bx (h := w_ (bx (h := w_ (a_ (h := wo_nil (e_ (h := aft_normal (wa_ (wc_draw (y_ (f_ (h := ax_ (h := y_ (l_ (h := ax_ (h := y_ (f_ (h := ax_ (h := ?_))))))))))))))))))))))
  refine y_ (l_ (h := ax_ (h := y_ (ca (hc := e_cmp _ _) (h := ax_ (h := y_ (f_ (h := ax_ (h := y_ (l_ (h := ax_ (h := y_ (f_ (h := ax_ (h := y_ (l_ (h := ax_ (h := y_ (ca (hc := e_cmp _ _) (h := ax_ (h := y_ (bs (h := ax_ (h := y_ (ca (hc := e_or _ _) (h := ax_ (h := y_ (a_ (h := ax_ (h := wo_nil (ed (h := aft_normal (?_)))))))))))))))))))))))))))))))))
  refine wc_ret (?_)
  all_goals (refine fin_ (hr := (res_tmp rfl res_nil)) (h := ?_); (focus (simp [byC])))
def ahead (a b : Ct) : Bool := if a.pl = b.pl then decide (a.ep < b.ep) else decide (a.pl < b.pl)
theorem e_ahead (a b : Ct) : oc.call 103 [a.v, b.v] = some (.bool (ahead a b), []) := by
  refine fun_s rfl cd103 rfl rfl rfl (by simp; rfl) (by simp; rfl) ?_
  refine wa_ (wc_region (w_ (bx (h := w_ (bx (h := w_ (a_ (h := wo_nil (e_ (h := aft_normal (wa_ (wa_ (wc_region (w_ (f_ (h := w_ (l_ (h := ?_))))))))))))))))))
  refine w_ (f_ (h := w_ (l_ (h := w_ (bE (h := wo_nil (e_ (h := aft_normal (?_)))))))))
  refine c_ (h1 := ?_) (h2 := ?_)
  rotate_right 1
  focus
   intro c1
   refine wc_skip (?_)
  rotate_right 1
  focus
   intro c1
   refine wa_ (wc_region (w_ (f_ (h := w_ (l_ (h := w_ (f_ (h := w_ (l_ (h := w_ (b_ (h := w_ (a_ (h := wo_nil (e_ (h := aft_normal (wc_ret (?_))))))))))))))))))
  all_goals first
  | refine aft_ret ?_
  | (refine aft_normal ?_
     refine wa_ (wc_region (w_ (f_ (h := w_ (l_ (h := w_ (f_ (h := w_ (l_ (h := w_ (b_ (h := w_ (a_ (h := wo_nil (e_ (h := aft_normal (wc_ret (?_))))))))))))))))))
     )
  all_goals (refine fin_ (hr := (res_tmp rfl res_nil)) (h := ?_); (focus (simp [ahead] at * <;> grind)))
theorem byC_ahead (a b : Ct) : (0 ≤ byC a b) = (ahead a b = false) := by
  simp only [byC, cmpI, ahead]; grind
theorem ahead_f {a b : Ct} (h : 0 ≤ byC a b) : ahead a b = false := by rw [byC_ahead] at h; exact h
theorem ahead_t {a b : Ct} (h : byC a b < 0) : ahead a b = true := by
  cases h2 : ahead a b with
  | true => rfl
  | false => rw [← byC_ahead] at h2; omega
theorem byC_zero (a b : Ct) : (byC a b = 0) = (a.pl = b.pl ∧ a.ep = b.ep) := by
  simp only [byC, cmpI]; grind
def rightC (pl : List Nd) (c : Ct) : Bool := isPl pl c.pl && (inI c.ep 0 1000 && inI c.n (-1000000000000) 1000000000000)
theorem e_isCount (pl : List Nd) (c : Ct) (hp : pl.length < 2000000) : oc.call 160 [.lst false 0 (nds false 0 pl), c.v] = some (.bool (rightC pl c), []) := by
  refine fun_s rfl cd160 rfl rfl rfl (by simp; rfl) (by simp; rfl) ?_
  refine wa_ (wc_region (w_ (bx (h := w_ (a_ (h := wo_nil (e_ (h := aft_normal (wa_ (wc_region (w_ (m_ (h := w_ (f_ (h := w_ (l_ (h := w_ (ca (hc := e_isPlace pl _ hp) (h := ?_)))))))))))))))))))
  refine w_ (m_ (h := ?_))
  refine gw_ (h1 := ?_) (h2 := ?_)
  rotate_right 1
  focus
   intro c1
   refine go_ (h := go_ (h := go_ (h := ?_)))
  rotate_right 1
  focus
   intro c1
   refine g_ (h := w_ (f_ (h := g_ (h := w_ (l_ (h := g_ (h := w_ (ca (hc := e_in _ _ _) (h := ?_)))))))))
  all_goals
   refine w_ (pk (h := w_ (m_ (h := ?_))))
   refine gw_ (h1 := ?_) (h2 := ?_)
   rotate_right 1
   focus
    intro c2
    refine go_ (h := go_ (h := go_ (h := ?_)))
   rotate_right 1
   focus
    intro c2
    refine g_ (h := w_ (f_ (h := g_ (h := w_ (l_ (h := g_ (h := w_ (ca (hc := e_isWeight _) (h := ?_)))))))))
   all_goals
    refine w_ (pk (h := w_ (a_ (h := wo_nil (e_ (h := ?_))))))
  all_goals first
  | (refine aft_normal ?_
     refine wc_ret (?_)
     )
  all_goals (refine fin_ (hr := (res_tmp rfl res_nil)) (h := ?_); (focus (simp [rightC] at * <;> grind)))
theorem e_l7Right (pl : List Nd) (c : Ct) (hp : pl.length < 2000000) : oc.call 102 [.lst false 0 (nds false 0 pl), c.v] = some (.bool (rightC pl c), []) := by
  refine fun_s rfl cd102 rfl rfl rfl (by simp; rfl) (by simp; rfl) ?_
  refine wa_ (wc_region (w_ (bx (h := w_ (a_ (h := wo_nil (e_ (h := aft_normal (wa_ (wc_region (w_ (m_ (h := w_ (f_ (h := w_ (l_ (h := w_ (ca (hc := e_l7Place pl _ hp) (h := ?_)))))))))))))))))))
  refine w_ (m_ (h := ?_))
  refine gw_ (h1 := ?_) (h2 := ?_)
  rotate_right 1
  focus
   intro c1
   refine go_ (h := go_ (h := go_ (h := ?_)))
  rotate_right 1
  focus
   intro c1
   refine g_ (h := w_ (f_ (h := g_ (h := w_ (l_ (h := g_ (h := w_ (ca (hc := e_l1In _ _ _) (h := ?_)))))))))
  all_goals
   refine w_ (pk (h := w_ (m_ (h := ?_))))
   refine gw_ (h1 := ?_) (h2 := ?_)
   rotate_right 1
   focus
    intro c2
    refine go_ (h := go_ (h := go_ (h := ?_)))
   rotate_right 1
   focus
    intro c2
    refine g_ (h := w_ (f_ (h := g_ (h := w_ (l_ (h := g_ (h := w_ (ca (hc := e_l1Weight _) (h := ?_)))))))))
   all_goals
    refine w_ (pk (h := w_ (a_ (h := wo_nil (e_ (h := ?_))))))
  all_goals first
  | (refine aft_normal ?_
     refine wc_ret (?_)
     )
  all_goals (refine fin_ (hr := (res_tmp rfl res_nil)) (h := ?_); (focus (simp [rightC] at * <;> grind)))
def ctsR (pl : List Nd) : Option Ct → List Ct → Int
  | _, [] => 0
  | p, c :: r => if rightC pl c = false ∨ c.n = 0 then 3 else if (p.elim false fun q => !ahead q c) = true then 1 else ctsR pl (some c) r
def prevAt (l : List Ct) (i : Nat) : Option Ct := if i = 0 then none else l[i - 1]?
theorem prevAt_succ {l : List Ct} {i : Nat} {c : Ct} (h : l[i]? = some c) : prevAt l (i + 1) = some c := by simp [prevAt, h]
theorem prevAt_pos {l : List Ct} {i : Nat} (h0 : 0 < i) (h : i ≤ l.length) (hi : i < 2000000000) : ∃ q, prevAt l i = some q ∧ (cts l)[(IntKind.i64.wrap ((i : Int) - 1)).toNat]? = some q.v ∧ 0 ≤ IntKind.i64.wrap ((i : Int) - 1) := by
  have hw : IntKind.i64.wrap ((i : Int) - 1) = ((i - 1 : Nat) : Int) := by rw [wrap_id (by omega) (by omega)]; omega
  have hlt : i - 1 < l.length := by omega
  refine ⟨l[i - 1], ?_, ?_, by rw [hw]; omega⟩
  · unfold prevAt; rw [if_neg (by omega)]; simp [hlt]
  · rw [hw]; exact cts_at hlt
def ctsF (pl : List Nd) (l : List Ct) : Int := if 200 < l.length then 2 else ctsR pl none l
theorem ctsR_3 {pl : List Nd} {p : Option Ct} {c : Ct} {r : List Ct} (h : rightC pl c = false ∨ c.n = 0) : ctsR pl p (c :: r) = 3 := by rw [ctsR, if_pos h]
theorem ctsR_1 {pl : List Nd} {p : Option Ct} {c : Ct} {r : List Ct} (h : ¬ (rightC pl c = false ∨ c.n = 0)) (h2 : (p.elim false fun q => !ahead q c) = true) : ctsR pl p (c :: r) = 1 := by rw [ctsR, if_neg h, if_pos h2]
theorem ctsR_0 {pl : List Nd} {p : Option Ct} {c : Ct} {r : List Ct} (h : ¬ (rightC pl c = false ∨ c.n = 0)) (h2 : ¬ (p.elim false fun q => !ahead q c) = true) : ctsR pl p (c :: r) = ctsR pl (some c) r := by rw [ctsR, if_neg h, if_neg h2]
theorem l_ctsI (pl : List Nd) (l : List Ct) (hp : pl.length < 2000000) (hl : l.length ≤ 200) : ∀ i : Nat, (i ≤ l.length) → ∀ s, normE 2 (some [0, 1, 10, 11, 12]) s = ⟨[(0, .lst false 0 (nds false 0 pl)), (1, .lst false 0 (cts l)), (10, .lst false 0 (cts l)), (11, .int .i64 l.length), (12, .int .i64 i)], [], 2⟩ →
    oc.loop 105 4 s = some (if ctsR pl (prevAt l i) (l.drop i) = 0 then (.exit 0, ⟨[], [], 2⟩) else (.ret, ⟨[(4, .int .i64 (ctsR pl (prevAt l i) (l.drop i)))], [], 2⟩)) := by
  refine loop_ind (σ := Nat) (fun i => l.length - i) _ (fun i => ⟨[(0, .lst false 0 (nds false 0 pl)), (1, .lst false 0 (cts l)), (10, .lst false 0 (cts l)), (11, .int .i64 l.length), (12, .int .i64 i)], [], 2⟩) _ ?_
  intro i hi ih s hs
  refine loop_s cd105 rfl rfl hs ?_
  refine wa_ (wc_region (w_ (b_ (h := wo_nil (e_ (h := aft_normal (wa_ (?_))))))))
  refine c_ (h1 := ?_) (h2 := ?_)
  rotate_right 1
  focus
   intro c1
   first
   | exact dn c1
   | (have d1 := c1; try simp at d1
      refine wc_exit (?_)
      )
  rotate_right 1
  focus
   intro c1
   first
   | exact dn c1
   | (have d1 := c1; try simp at d1
      have hw := wrap_succ (i := i) (by omega); obtain ⟨c, hx, e1, g1⟩ := cts_cut (l := l) (i := i) (by omega); have hs1 := prevAt_succ hx
      refine wc_skip (?_)
      )
  all_goals first
  | refine aft_exit ?_
  | (refine aft_normal ?_
     refine wa_ (wc_block (wa_ (wc_region (w_ (m_ (h := w_ (x_ (h := w_ (l_ (h := w_ (al (h := w_ (a_ (h := w0 (s_ (h := wo_nil (e_ (h := aft_normal (?_)))))))))))))))))))
     refine wa_ (wa_ (wc_region (w_ (m_ (h := w_ (l_ (h := w_ (ca (hc := e_isCount pl c hp) (h := w_ (u_ (h := w_ (m_ (h := ?_)))))))))))))
     refine gw_ (h1 := ?_) (h2 := ?_)
     rotate_right 1
     focus
      intro c2
      first
      | exact dn c2
      | (have d2 := c2; try simp at d2
         refine go_ (h := go_ (h := go_ (h := ?_)))
         )
     rotate_right 1
     focus
      intro c2
      first
      | exact dn c2
      | (have d2 := c2; try simp at d2
         refine g_ (h := w_ (f_ (h := g_ (h := w_ (l_ (h := g_ (h := w_ (bE (h := ?_)))))))))
         )
     all_goals
      refine w_ (pk (h := wo_nil (e_ (h := ?_))))
     all_goals first
     | (refine aft_normal ?_
        refine c_ (h1 := ?_) (h2 := ?_)
        rotate_right 1
        focus
         intro c3
         first
         | exact dn c3
         | (have d3 := c3; try simp at d3
            refine wc_skip (?_)
            )
        rotate_right 1
        focus
         intro c3
         first
         | exact dn c3
         | (have d3 := c3; try simp at d3
            refine wa_ (wc_region (w_ (a_ (h := wo_nil (e_ (h := aft_normal (wc_ret (?_))))))))
            )
        )
     all_goals first
     | refine aft_ret ?_
     | (refine aft_normal ?_
        refine wa_ (wc_draw (y_ (m_ (h := ax_ (h := y_ (b_ (h := ax_ (h := y_ (m_ (h := ax_ (h := ?_)))))))))))
        refine gw_ (h1 := ?_) (h2 := ?_)
        rotate_right 1
        focus
         intro c4
         first
         | exact dn c4
         | (have d4 := c4; try simp at d4
            refine gd_ (h := gd_ (h := gd_ (h := gd_ (h := gd_ (h := gd_ (h := gd_ (h := gd_ (h := ?_))))))))
            )
        rotate_right 1
        focus
         intro c4
         first
         | exact dn c4
         | (have d4 := c4; try simp at d4
            obtain ⟨q, hq, g2, g3⟩ := prevAt_pos (l := l) (i := i) (by omega) (by omega) (by omega)
            refine g_ (h := y_ (m_ (h := ax_ (h := g_ (h := y_ (m_ (h := ax_ (h := g_ (h := y_ (b_ (h := ax_ (h := g_ (h := y_ (x_ (h := ax_ (h := g_ (h := y_ (l_ (h := ax_ (h := g_ (h := y_ (l_ (h := ax_ (h := g_ (h := y_ (ca (hc := e_byC q c) (h := ax_ (h := g_ (h := y_ (b_ (h := ax_ (h := ?_))))))))))))))))))))))))))))))))
            )
        all_goals
         refine y_ (pk (h := ax_ (h := wo_nil (ed (h := ?_)))))
        all_goals first
        | (refine aft_normal ?_
           refine c_ (h1 := ?_) (h2 := ?_)
           rotate_right 1
           focus
            intro c5
            first
            | exact dn c5
            | (have d5 := c5; try simp at d5
               refine wc_skip (?_)
               )
           rotate_right 1
           focus
            intro c5
            first
            | exact dn c5
            | (have d5 := c5; try simp at d5
               refine wa_ (wc_region (w_ (a_ (h := wo_nil (e_ (h := aft_normal (wc_ret (?_))))))))
               )
           )
        )
     all_goals first | refine blk_normal ?_ | refine blk_ret ?_
     all_goals first
     | refine aft_ret ?_
     | (refine aft_normal ?_
        refine wc_region (w_ (b_ (h := w_ (m_ (h := wo_nil (e_ (h := ?_)))))))
        )
     )
  all_goals first
  | (refine (ih (i + 1) (by omega) ?_ _ ?_).trans ?_; (focus (first | omega | (simp; done) | (simp; omega))); (focus (simp [normE, hw]; done)); (focus (rw [hs1, e1, ctsR_0 (by simp [d2, d3]) (by first | (rw [hq]; simp [ahead_t d5]; done) | (subst d4; simp [prevAt]))])))
  | (apply end_leaf (ex := Ext.ret) 2 (some [4]); (focus (simp [normE]; rfl)); (focus (rw [e1, ctsR_3 (by first | exact .inl d2 | exact .inr d3)]; simp)))
  | (apply end_leaf (ex := Ext.ret) 2 (some [4]); (focus (simp [normE]; rfl)); (focus (rw [e1, ctsR_1 (by simp [d2, d3]) (by rw [hq]; simp [ahead_f d5])]; simp)))
  | (apply end_leaf (ex := (Ext.exit 0)) 2 (some [4]); (focus (simp [normE]; rfl)); (focus (rw [List.drop_eq_nil_of_le (by omega)]; simp [ctsR])))
theorem e_ctsF (pl : List Nd) (l : List Ct) (hp : pl.length < 2000000) : oc.call 105 [.lst false 0 (nds false 0 pl), .lst false 0 (cts l)] = some (.int .i64 (ctsF pl l), []) := by
  refine fun_s rfl cd105 rfl rfl rfl (by simp; rfl) (by simp; rfl) ?_
  refine wa_ (wc_region (w_ (a_ (h := wo_nil (e_ (h := aft_normal (wa_ (wa_ (wc_region (w_ (m_ (h := w_ (le (h := w_ (b_ (h := wo_nil (e_ (h := ?_))))))))))))))))))
  refine aft_normal (?_)
  refine c_ (h1 := ?_) (h2 := ?_)
  rotate_right 1
  focus
   intro c1
   first
   | exact dn c1
   | (have d1 := c1; try simp at d1
      refine wc_skip (?_)
      )
  rotate_right 1
  focus
   intro c1
   first
   | exact dn c1
   | (have d1 := c1; try simp at d1
      refine wa_ (wc_region (w_ (a_ (h := wo_nil (e_ (h := aft_normal (wc_ret (?_))))))))
      )
  all_goals first
  | refine aft_ret ?_
  | (refine aft_normal ?_
     refine wa_ (wa_ (wc_region (w_ (m_ (h := w_ (le (h := w_ (m_ (h := wo_nil (e_ (h := aft_normal (wc_block (?_)))))))))))))
     refine wc_loopI (l_ctsI pl l hp (by omega) 0 (by omega) _ (by simp [normE])) ?_ ?_
     rotate_right 1
     focus
      intro c2
      first
      | exact dn c2
      | (have d2 := c2; try simp at d2
         skip
         )
     rotate_right 1
     focus
      intro c2
      first
      | exact dn c2
      | (have d2 := c2; try simp at d2
         skip
         )
     all_goals first | refine blk_ret ?_ | refine blk_exit ?_
     all_goals first
     | refine aft_ret ?_
     | (refine aft_normal ?_
        refine wa_ (wc_region (w_ (a_ (h := wo_nil (e_ (h := aft_normal (wc_ret (?_))))))))
        )
     )
  all_goals (refine fin_ (hr := (res_tmp rfl res_nil)) (h := ?_); (focus (simp [ctsF, prevAt] at * <;> grind)))
theorem l_ctsS (pl : List Nd) (l : List Ct) (hp : pl.length < 2000000) (hl : l.length ≤ 200) : ∀ i : Nat, (i ≤ l.length) → ∀ s, normE 2 (some [0, 1, 6]) s = ⟨[(0, .lst false 0 (nds false 0 pl)), (1, .lst false 0 (cts l)), (6, .int .i64 i)], [], 2⟩ →
    oc.loop 39 7 s = some (if ctsR pl (prevAt l i) (l.drop i) = 0 then (.exit 0, ⟨[], [], 2⟩) else (.ret, ⟨[(4, .int .i64 (ctsR pl (prevAt l i) (l.drop i)))], [], 2⟩)) := by
  refine loop_ind (σ := Nat) (fun i => l.length - i) _ (fun i => ⟨[(0, .lst false 0 (nds false 0 pl)), (1, .lst false 0 (cts l)), (6, .int .i64 i)], [], 2⟩) _ ?_
  intro i hi ih s hs
  refine loop_s cd39 rfl rfl hs ?_
  refine wa_ (wa_ (wc_region (w_ (m_ (h := w_ (m_ (h := w_ (le (h := w_ (b_ (h := wo_nil (e_ (h := aft_normal (?_))))))))))))))
  refine c_ (h1 := ?_) (h2 := ?_)
  rotate_right 1
  focus
   intro c1
   first
   | exact dn c1
   | (have d1 := c1; try simp at d1
      refine wc_exit (?_)
      )
  rotate_right 1
  focus
   intro c1
   first
   | exact dn c1
   | (have d1 := c1; try simp at d1
      have hw := wrap_succ (i := i) (by omega); obtain ⟨c, hx, e1, g1⟩ := cts_cut (l := l) (i := i) (by omega); have hs1 := prevAt_succ hx
      refine wc_skip (?_)
      )
  all_goals first
  | refine aft_exit ?_
  | (refine aft_normal ?_
     refine wa_ (wc_block (wa_ (wa_ (wc_region (w_ (m_ (h := w_ (m_ (h := w_ (m_ (h := w_ (x_ (h := w_ (l_ (h := w_ (ca (hc := e_l7Right pl c hp) (h := w_ (u_ (h := ?_)))))))))))))))))))
     refine w_ (m_ (h := ?_))
     refine gw_ (h1 := ?_) (h2 := ?_)
     rotate_right 1
     focus
      intro c2
      first
      | exact dn c2
      | (have d2 := c2; try simp at d2
         refine go_ (h := go_ (h := go_ (h := go_ (h := go_ (h := go_ (h := ?_))))))
         )
     rotate_right 1
     focus
      intro c2
      first
      | exact dn c2
      | (have d2 := c2; try simp at d2
         refine g_ (h := w_ (m_ (h := g_ (h := w_ (m_ (h := g_ (h := w_ (x_ (h := g_ (h := w_ (f_ (h := g_ (h := w_ (l_ (h := g_ (h := w_ (bE (h := ?_))))))))))))))))))
         )
     all_goals
      refine w_ (pk (h := wo_nil (e_ (h := ?_))))
     all_goals first
     | (refine aft_normal ?_
        refine c_ (h1 := ?_) (h2 := ?_)
        rotate_right 1
        focus
         intro c3
         first
         | exact dn c3
         | (have d3 := c3; try simp at d3
            refine wc_skip (?_)
            )
        rotate_right 1
        focus
         intro c3
         first
         | exact dn c3
         | (have d3 := c3; try simp at d3
            refine wa_ (wc_region (w_ (a_ (h := wo_nil (e_ (h := aft_normal (wc_ret (?_))))))))
            )
        )
     all_goals first
     | refine aft_ret ?_
     | (refine aft_normal ?_
        refine wa_ (wc_draw (y_ (m_ (h := ax_ (h := y_ (b_ (h := ax_ (h := y_ (m_ (h := ax_ (h := ?_)))))))))))
        refine gw_ (h1 := ?_) (h2 := ?_)
        rotate_right 1
        focus
         intro c4
         first
         | exact dn c4
         | (have d4 := c4; try simp at d4
            refine gd_ (h := gd_ (h := gd_ (h := gd_ (h := gd_ (h := gd_ (h := gd_ (h := gd_ (h := gd_ (h := gd_ (h := gd_ (h := ?_)))))))))))
            )
        rotate_right 1
        focus
         intro c4
         first
         | exact dn c4
         | (have d4 := c4; try simp at d4
            obtain ⟨q, hq, g2, g3⟩ := prevAt_pos (l := l) (i := i) (by omega) (by omega) (by omega)
            refine g_ (h := y_ (m_ (h := ax_ (h := g_ (h := y_ (m_ (h := ax_ (h := g_ (h := y_ (b_ (h := ax_ (h := g_ (h := y_ (x_ (h := ax_ (h := g_ (h := y_ (l_ (h := ax_ (h := g_ (h := y_ (m_ (h := ax_ (h := g_ (h := y_ (m_ (h := ax_ (h := g_ (h := y_ (x_ (h := ax_ (h := g_ (h := y_ (l_ (h := ax_ (h := g_ (h := y_ (ca (hc := e_ahead q c) (h := ax_ (h := g_ (h := y_ (u_ (h := ax_ (h := ?_))))))))))))))))))))))))))))))))))))))))))))
            )
        all_goals
         refine y_ (pk (h := ax_ (h := wo_nil (ed (h := ?_)))))
        all_goals first
        | (refine aft_normal ?_
           refine c_ (h1 := ?_) (h2 := ?_)
           rotate_right 1
           focus
            intro c5
            first
            | exact dn c5
            | (have d5 := c5; try simp at d5
               refine wc_skip (?_)
               )
           rotate_right 1
           focus
            intro c5
            first
            | exact dn c5
            | (have d5 := c5; try simp at d5
               refine wa_ (wc_region (w_ (a_ (h := wo_nil (e_ (h := aft_normal (wc_ret (?_))))))))
               )
           )
        )
     all_goals first | refine blk_normal ?_ | refine blk_ret ?_
     all_goals first
     | refine aft_ret ?_
     | (refine aft_normal ?_
        refine wc_region (w_ (m_ (h := w_ (b_ (h := w_ (a_ (h := wo_nil (e_ (h := ?_)))))))))
        )
     )
  all_goals first
  | (refine (ih (i + 1) (by omega) ?_ _ ?_).trans ?_; (focus (first | omega | (simp; done) | (simp; omega))); (focus (simp [normE, hw]; done)); (focus (rw [hs1, e1, ctsR_0 (by simp [d2, d3]) (by first | (rw [hq]; simp [d5]; done) | (subst d4; simp [prevAt]))])))
  | (apply end_leaf (ex := Ext.ret) 2 (some [4]); (focus (simp [normE]; rfl)); (focus (rw [e1, ctsR_3 (by first | exact .inl d2 | exact .inr d3)]; simp)))
  | (apply end_leaf (ex := Ext.ret) 2 (some [4]); (focus (simp [normE]; rfl)); (focus (rw [e1, ctsR_1 (by simp [d2, d3]) (by rw [hq]; simp [d5])]; simp)))
  | (apply end_leaf (ex := (Ext.exit 0)) 2 (some [4]); (focus (simp [normE]; rfl)); (focus (rw [List.drop_eq_nil_of_le (by omega)]; simp [ctsR])))
def ctsN (pl : List Nd) (l : List Ct) : Int := if (lookN pl).2 = 0 then ctsF pl l else (lookN pl).2
theorem e_ctsFS (pl : List Nd) (l : List Ct) (hp : pl.length < 2000000) (hk : okN pl) : oc.call 39 [.lst false 0 (nds false 0 pl), .lst false 0 (cts l)] = some (.int .i64 (ctsN pl l), []) := by
  refine fun_s rfl cd39 rfl rfl rfl (by simp; rfl) (by simp; rfl) ?_
  refine wa_ (wc_region (w_ (a_ (h := wo_nil (e_ (h := aft_normal (wa_ (wa_ (wc_region (w_ (m_ (h := w_ (ca (hc := e_planS pl hp hk) (h := w_ (a_ (h := wo_nil (e_ (h := ?_))))))))))))))))))
  refine aft_normal (wa_ (wc_region (w_ (m_ (h := w_ (bE (h := wo_nil (e_ (h := aft_normal (?_))))))))))
  refine c_ (h1 := ?_) (h2 := ?_)
  rotate_right 1
  focus
   intro c1
   first
   | exact dn c1
   | (have d1 := c1; try simp at d1
      refine wc_skip (?_)
      )
  rotate_right 1
  focus
   intro c1
   first
   | exact dn c1
   | (have d1 := c1; try simp at d1
      refine wa_ (wc_region (w_ (m_ (h := w_ (a_ (h := wo_nil (e_ (h := aft_normal (wc_ret (?_))))))))))
      )
  all_goals first
  | refine aft_ret ?_
  | (refine aft_normal ?_
     refine wa_ (wa_ (wc_region (w_ (m_ (h := w_ (le (h := w_ (b_ (h := wo_nil (e_ (h := aft_normal (?_))))))))))))
     refine c_ (h1 := ?_) (h2 := ?_)
     rotate_right 1
     focus
      intro c2
      first
      | exact dn c2
      | (have d2 := c2; try simp at d2
         refine wc_skip (?_)
         )
     rotate_right 1
     focus
      intro c2
      first
      | exact dn c2
      | (have d2 := c2; try simp at d2
         refine wa_ (wc_region (w_ (a_ (h := wo_nil (e_ (h := aft_normal (wc_ret (?_))))))))
         )
     all_goals first
     | refine aft_ret ?_
     | (refine aft_normal ?_
        refine wa_ (wa_ (wc_region (w_ (a_ (h := wo_nil (e_ (h := aft_normal (wc_block (?_)))))))))
        refine wc_loopI (l_ctsS pl l hp (by omega) 0 (by omega) _ (by simp [normE])) ?_ ?_
        rotate_right 1
        focus
         intro c3
         first
         | exact dn c3
         | (have d3 := c3; try simp at d3
            skip
            )
        rotate_right 1
        focus
         intro c3
         first
         | exact dn c3
         | (have d3 := c3; try simp at d3
            skip
            )
        all_goals first | refine blk_ret ?_ | refine blk_exit ?_
        all_goals first
        | refine aft_ret ?_
        | (refine aft_normal ?_
           refine wa_ (wc_region (w_ (a_ (h := wo_nil (e_ (h := aft_normal (wc_ret (?_))))))))
           )
        )
     )
  all_goals (refine fin_ (hr := (res_tmp rfl res_nil)) (h := ?_); (focus (clear hk; simp [ctsN, ctsF, prevAt] at * <;> grind)))
theorem e_ctsFI (pl : List Nd) (l : List Ct) (hp : pl.length < 2000000) (hk : okN pl) : oc.call 41 [.lst false 0 (nds false 0 pl), .lst false 0 (cts l)] = some (.int .i64 (ctsN pl l), []) := by
  refine fun_s rfl cd41 rfl rfl rfl (by simp; rfl) (by simp; rfl) ?_
  refine wa_ (wc_region (w_ (a_ (h := wo_nil (e_ (h := aft_normal (wa_ (wa_ (wc_region (w_ (m_ (h := w_ (ca (hc := e_planI pl hp hk) (h := w_ (a_ (h := wo_nil (e_ (h := ?_))))))))))))))))))
  refine aft_normal (wa_ (wc_region (w_ (m_ (h := w_ (bE (h := wo_nil (e_ (h := aft_normal (?_))))))))))
  refine c_ (h1 := ?_) (h2 := ?_)
  rotate_right 1
  focus
   intro c1
   first
   | exact dn c1
   | (have d1 := c1; try simp at d1
      refine wc_skip (?_)
      )
  rotate_right 1
  focus
   intro c1
   first
   | exact dn c1
   | (have d1 := c1; try simp at d1
      refine wa_ (wc_region (w_ (m_ (h := w_ (a_ (h := wo_nil (e_ (h := aft_normal (wc_ret (?_))))))))))
      )
  all_goals first
  | refine aft_ret ?_
  | (refine aft_normal ?_
     refine wa_ (wc_region (w_ (m_ (h := w_ (m_ (h := w_ (ca (hc := e_ctsF pl l hp) (h := w_ (a_ (h := wo_nil (e_ (h := aft_normal (wc_ret (?_))))))))))))))
     )
  all_goals (refine fin_ (hr := (res_tmp rfl res_nil)) (h := ?_); (focus (clear hk; simp [ctsN] at * <;> grind)))
theorem law_countsFault (pl : List Nd) (l : List Ct) (ho : okB pl) (hl : l.length ≤ 140737488351232) : oc.call 7 [.lst false 0 (nds false 0 pl), .lst false 0 (cts l)] = some (.bool true, []) := by
  refine fun_s rfl cd7 rfl rfl rfl (by simp; rfl) (by simp; rfl) ?_
  refine wa_ (wc_region (w_ (a_ (h := wo_nil (e_ (h := aft_normal (wa_ (wc_region (w_ (a_ (h := wo_nil (e_ (h := aft_normal (wa_ (wc_region (?_))))))))))))))))
  refine w_ (m_ (h := w_ (m_ (h := w_ (ca (hc := e_szNS pl 0 1048576 ho (by omega) (by omega)) (h := w_ (a_ (h := wo_nil (e_ (h := aft_normal (wa_ (wa_ (wc_region (w_ (m_ (h := w_ (b_ (h := wo_nil (e_ (h := ?_))))))))))))))))))))
  refine aft_normal (?_)
  refine c_ (h1 := ?_) (h2 := ?_)
  rotate_right 1
  focus
   intro c1
   first
   | exact dn c1
   | (have d1 := c1; try simp at d1
      obtain ⟨h1, h2, h3⟩ := szP_ok (l := pl) (a := 1048576) (by omega) (by omega)
      refine wc_skip (?_)
      )
  rotate_right 1
  focus
   intro c1
   first
   | exact dn c1
   | (have d1 := c1; try simp at d1
      refine wa_ (wc_region (w_ (a_ (h := wo_nil (e_ (h := aft_normal (wc_ret (?_))))))))
      )
  all_goals first
  | refine aft_ret ?_
  | (refine aft_normal ?_
     refine wa_ (wc_region (w_ (m_ (h := w_ (m_ (h := w_ (ca (hc := sz_Cts l (szP pl 1048576) hl (by omega) (by omega)) (h := w_ (a_ (h := wo_nil (e_ (h := aft_normal (wa_ (wa_ (wc_region (w_ (m_ (h := ?_))))))))))))))))))
     refine w_ (b_ (h := wo_nil (e_ (h := aft_normal (?_)))))
     refine c_ (h1 := ?_) (h2 := ?_)
     rotate_right 1
     focus
      intro c2
      first
      | exact dn c2
      | (have d2 := c2; try simp at d2
         obtain ⟨h4, h5⟩ := szI_pos (n := l.length) (a := szP pl 1048576) (by omega)
         refine wc_skip (?_)
         )
     rotate_right 1
     focus
      intro c2
      first
      | exact dn c2
      | (have d2 := c2; try simp at d2
         refine wa_ (wc_region (w_ (a_ (h := wo_nil (e_ (h := aft_normal (wc_ret (?_))))))))
         )
     all_goals first
     | refine aft_ret ?_
     | (refine aft_normal ?_
        refine wa_ (wc_region (w_ (m_ (h := w_ (ca (hc := e_toNS pl 0 h1 h2) (h := w_ (m_ (h := w_ (ca (hc := to_Cts l (by omega)) (h := w_ (ca (hc := e_ctsFS pl l h1 h2) (h := w_ (a_ (h := wo_nil (e_ (h := aft_normal (wa_ (wc_region (?_)))))))))))))))))))
        refine w_ (m_ (h := w_ (ca (hc := e_toNS pl 0 h1 h2) (h := w_ (a_ (h := wo_nil (e_ (h := aft_normal (wa_ (wc_region (w_ (m_ (h := w_ (ca (hc := to_Cts l (by omega)) (h := w_ (a_ (h := wo_nil (e_ (h := aft_normal (?_))))))))))))))))))))
        refine wa_ (wc_region (w_ (m_ (h := w_ (m_ (h := w_ (ca (hc := e_ctsFI pl l h1 h2) (h := w_ (a_ (h := wo_nil (e_ (h := aft_normal (wa_ (wa_ (wc_region (w_ (m_ (h := ?_))))))))))))))))))
        refine w_ (m_ (h := w_ (bE (h := wo_nil (e_ (h := aft_normal (?_)))))))
        refine c_ (h1 := ?_) (h2 := ?_)
        rotate_right 1
        focus
         intro c3
         first
         | exact dn c3
         | (have d3 := c3; try simp at d3
            refine wc_skip (?_)
            )
        rotate_right 1
        focus
         intro c3
         first
         | exact dn c3
         | (have d3 := c3; try simp at d3
            refine wa_ (wc_region (w_ (a_ (h := wo_nil (e_ (h := aft_normal (wc_ret (?_))))))))
            )
        all_goals first
        | refine aft_ret ?_
        | (refine aft_normal ?_
           refine wa_ (wa_ (wc_region (w_ (m_ (h := w_ (m_ (h := w_ (ca (hc := e_toNS pl 0 h1 h2) (h := w_ (ca (hc := e_eqNS pl pl 0 0 h1 h1 h2 h2) (h := w_ (u_ (h := wo_nil (e_ (h := aft_normal (?_))))))))))))))))
           refine c_ (h1 := ?_) (h2 := ?_)
           rotate_right 1
           focus
            intro c4
            first
            | exact dn c4
            | (have d4 := c4; try simp at d4
               refine wc_skip (?_)
               )
           rotate_right 1
           focus
            intro c4
            first
            | exact dn c4
            | (have d4 := c4; try simp at d4
               refine wa_ (wc_region (w_ (a_ (h := wo_nil (e_ (h := aft_normal (wc_ret (?_))))))))
               )
           all_goals first
           | refine aft_ret ?_
           | (refine aft_normal ?_
              refine wa_ (wa_ (wc_region (w_ (m_ (h := w_ (m_ (h := w_ (ca (hc := to_Cts l (by omega)) (h := w_ (ca (hc := eq_Cts l l (by omega) (by omega)) (h := w_ (u_ (h := wo_nil (e_ (h := aft_normal (?_))))))))))))))))
              refine c_ (h1 := ?_) (h2 := ?_)
              rotate_right 1
              focus
               intro c5
               first
               | exact dn c5
               | (have d5 := c5; try simp at d5
                  refine wc_skip (?_)
                  )
              rotate_right 1
              focus
               intro c5
               first
               | exact dn c5
               | (have d5 := c5; try simp at d5
                  refine wa_ (wc_region (w_ (a_ (h := wo_nil (e_ (h := aft_normal (wc_ret (?_))))))))
                  )
              all_goals first
              | refine aft_ret ?_
              | (refine aft_normal ?_
                 refine wa_ (wc_region (w_ (a_ (h := wo_nil (e_ (h := aft_normal (wc_ret (?_))))))))
                 )
              )
           )
        )
     )
  all_goals (refine fin_ (hr := (res_tmp rfl res_nil)) (h := ?_); (focus (simp)))
end Go.Proofs.Ytmednhpmcplplaa.Ev
namespace Go.Proofs.Ytmednhpmcplplaa.Ev
open Go
set_option maxRecDepth 100000
set_option linter.unusedSimpArgs false
set_option linter.unusedVariables false
set_option maxHeartbeats 2000000
theorem ctsR_right {pl : List Nd} : ∀ {l : List Ct} {p : Option Ct}, ctsR pl p l = 0 → ∀ c ∈ l, rightC pl c = true ∧ c.n ≠ 0
  | [], p, _, c, hc => by cases hc
  | x :: r, p, h, c, hc => by
    unfold ctsR at h
    split at h
    · cases h
    · rename_i h1
      split at h
      · cases h
      · rcases List.mem_cons.1 hc with rfl | hc
        · simp at h1; exact h1
        · exact ctsR_right h c hc
theorem ctsF_right {pl : List Nd} {l : List Ct} (h : ctsF pl l = 0) : ∀ c ∈ l, rightC pl c = true ∧ c.n ≠ 0 := by
  unfold ctsF at h
  split at h
  · cases h
  · exact ctsR_right h
theorem right_pl {pl : List Nd} {c : Ct} (h : rightC pl c = true) : 0 ≤ c.pl ∧ c.pl < 2 * pl.length ∧ 0 ≤ c.ep := by
  simp [rightC, isPl, inI] at h; omega
theorem pl_in {pl : List Nd} {a : Int} (h : isPl pl a = true) : 0 ≤ a ∧ a < 2 * pl.length := by
  simp [isPl, inI] at h; omega
def brings (pl : List Nd) (to : Int) (c : Ct) : Bool := decide (0 < c.n) && leadsF pl to (2 * pl.length) c.pl
def frF (P : Ct → Bool) : List Ct → Option Int → Option Int
  | [], o => o
  | c :: r, o => frF P r (if P c = true ∧ (o.elim true fun e => decide (c.ep < e)) = true then some c.ep else o)
theorem frF_ge {P : Ct → Bool} : ∀ {l : List Ct} {o : Option Int}, (∀ c ∈ l, 0 ≤ c.ep) → (∀ e, o = some e → 0 ≤ e) → ∀ e, frF P l o = some e → 0 ≤ e
  | [], o, _, ho, e, h => ho e h
  | c :: r, o, hl, ho, e, h => by
    refine frF_ge (P := P) (l := r) (fun x hx => hl x (List.mem_cons_of_mem _ hx)) ?_ e h
    intro e' he
    split at he
    · cases he; exact hl c (List.mem_cons_self ..)
    · exact ho e' he
theorem frF_t {P : Ct → Bool} {c : Ct} {r : List Ct} {o : Option Int} (h : P c = true) (h2 : (o.elim true fun e => decide (c.ep < e)) = true) : frF P (c :: r) o = frF P r (some c.ep) := by rw [frF, if_pos ⟨h, h2⟩]
theorem frF_f {P : Ct → Bool} {c : Ct} {r : List Ct} {o : Option Int} (h : ¬ (P c = true ∧ (o.elim true fun e => decide (c.ep < e)) = true)) : frF P (c :: r) o = frF P r o := by rw [frF, if_neg h]
theorem l_frI (pl : List Nd) (to : Int) (l : List Ct) (hp : pl.length < 2000000) (hk : okN pl) (W : Wf pl) (hl : l.length < 2000000) (hr : ∀ c ∈ l, rightC pl c = true ∧ c.n ≠ 0) : ∀ x : Nat × (Option Int), (x.1 ≤ l.length) → ∀ s, normE 3 (some [0, 2, 8, 9, 12, 13, 14]) s = ⟨[(0, .lst false 0 (nds false 0 pl)), (2, .int .i64 to), (8, .int .i64 (x.2.getD 0)), (9, .bool x.2.isSome), (12, .lst false 0 (cts l)), (13, .int .i64 l.length), (14, .int .i64 x.1)], [], 3⟩ →
    oc.loop 131 3 s = some (.exit 0, ⟨[(8, .int .i64 ((frF (brings pl to) (l.drop x.1) x.2).getD 0)), (9, .bool (frF (brings pl to) (l.drop x.1) x.2).isSome)], [], 3⟩) := by
  refine loop_ind (σ := Nat × (Option Int)) (fun x => l.length - x.1) _ (fun x => ⟨[(0, .lst false 0 (nds false 0 pl)), (2, .int .i64 to), (8, .int .i64 (x.2.getD 0)), (9, .bool x.2.isSome), (12, .lst false 0 (cts l)), (13, .int .i64 l.length), (14, .int .i64 x.1)], [], 3⟩) _ ?_
  rintro ⟨i, o⟩ hi ih s hs
  simp only at hi
  refine loop_s cd131 rfl rfl hs ?_
  refine wa_ (wc_region (w_ (b_ (h := wo_nil (e_ (h := aft_normal (wa_ (?_))))))))
  refine c_ (h1 := ?_) (h2 := ?_)
  rotate_right 1
  focus
   intro c1
   first
   | exact dn c1
   | (have d1 := c1; try simp at d1
      refine wc_exit (?_)
      )
  rotate_right 1
  focus
   intro c1
   first
   | exact dn c1
   | (have d1 := c1; try simp at d1
      have hw := wrap_succ (i := i) (by omega); obtain ⟨c, hx, e1, g1⟩ := cts_cut (l := l) (i := i) (by omega); obtain ⟨b1, b2, b3⟩ := right_pl (hr c (List.mem_of_getElem? hx)).1
      refine wc_skip (?_)
      )
  all_goals first
  | refine aft_exit ?_
  | (refine aft_normal ?_
     refine wa_ (wc_block (wa_ (wc_region (w_ (x_ (h := w_ (l_ (h := w_ (al (h := w0 (s_ (h := wo_nil (e_ (h := aft_normal (wa_ (wc_region (?_)))))))))))))))))
     refine w_ (f_ (h := w_ (l_ (h := w_ (b_ (h := w_ (m_ (h := ?_))))))))
     refine gw_ (h1 := ?_) (h2 := ?_)
     rotate_right 1
     focus
      intro c2
      first
      | exact dn c2
      | (have d2 := c2; try simp at d2
         refine go_ (h := go_ (h := go_ (h := go_ (h := go_ (h := ?_)))))
         )
     rotate_right 1
     focus
      intro c2
      first
      | exact dn c2
      | (have d2 := c2; try simp at d2
         refine g_ (h := w_ (m_ (h := g_ (h := w_ (f_ (h := g_ (h := w_ (l_ (h := g_ (h := w_ (m_ (h := g_ (h := w_ (ca (hc := e_leads pl to hp hk W (2 * pl.length) c.pl (by omega) (by omega) (by omega)) (h := ?_)))))))))))))))
         )
     all_goals
      refine w_ (pk (h := w_ (m_ (h := ?_))))
      refine gw_ (h1 := ?_) (h2 := ?_)
      rotate_right 1
      focus
       intro c3
       first
       | exact dn c3
       | (have d3 := c3; try simp at d3
          refine go_ (h := go_ (h := go_ (h := ?_)))
          )
      rotate_right 1
      focus
       intro c3
       first
       | exact dn c3
       | (have d3 := c3; try simp at d3
          refine g_ (h := w_ (m_ (h := g_ (h := w_ (u_ (h := g_ (h := w_ (m_ (h := ?_)))))))))
          )
      all_goals
       first
       | (skip
          refine goN (h := goN (h := goN (h := goN (h := ?_))))
          )
       | (refine gw_ (h1 := ?_) (h2 := ?_)
          rotate_right 1
          focus
           intro c4
           first
           | exact dn c4
           | (have d4 := c4; try simp at d4
              refine go_ (h := go_ (h := go_ (h := go_ (h := ?_))))
              )
          rotate_right 1
          focus
           intro c4
           first
           | exact dn c4
           | (have d4 := c4; try simp at d4
              refine g_ (h := w_ (f_ (h := g_ (h := w_ (l_ (h := g_ (h := w_ (m_ (h := g_ (h := w_ (b_ (h := ?_))))))))))))
              )
          )
       all_goals
        first
        | (skip
           refine g_ (h := w_ (pk (h := ?_)))
           )
        | (skip
           refine go_ (h := ?_)
           )
        all_goals
         refine w_ (pk (h := wo_nil (e_ (h := ?_))))
     all_goals first
     | (refine aft_normal ?_
        refine c_ (h1 := ?_) (h2 := ?_)
        rotate_right 1
        focus
         intro c5
         first
         | exact dn c5
         | (have d5 := c5; try simp at d5
            refine wc_skip (?_)
            )
        rotate_right 1
        focus
         intro c5
         first
         | exact dn c5
         | (have d5 := c5; try simp at d5
            refine wc_region (w_ (f_ (h := w_ (l_ (h := w_ (a_ (h := w_ (a_ (h := wo_nil (e_ (h := ?_)))))))))))
            )
        )
     all_goals refine blk_normal ?_
     all_goals first
     | (refine aft_normal ?_
        refine wc_region (w_ (b_ (h := w_ (m_ (h := wo_nil (e_ (h := ?_)))))))
        )
     )
  all_goals first
  | (refine (ih ((i + 1, some c.ep)) (by simp; omega) ?_ _ ?_).trans ?_; (focus (first | omega | (simp; done) | (simp; omega))); (focus (simp [normE, hw]; done)); (focus (simp only [e1]; rw [frF_t (by simp [brings, d2, d3]) (by first | (subst d4; rfl) | (obtain ⟨e, rfl⟩ := Option.isSome_iff_exists.1 d4; simp at d5 ⊢; omega))])))
  | (refine (ih ((i + 1, o)) (by simp; omega) ?_ _ ?_).trans ?_; (focus (first | omega | (simp; done) | (simp; omega))); (focus (simp [normE, hw]; done)); (focus (simp only [e1]; rw [frF_f (by first | (simp [brings, Int.not_lt.2 d2]; done) | (simp [brings, d3]; done) | (obtain ⟨e, rfl⟩ := Option.isSome_iff_exists.1 d4; simp at d5 ⊢; intro _; omega))])))
  | (apply end_leaf (ex := (Ext.exit 0)) 3 (some [8, 9]); (focus (simp [normE]; rfl)); (focus (simp only [List.drop_eq_nil_of_le (show l.length ≤ i by omega), frF])))
def frN (pl : List Nd) (l : List Ct) (to : Int) : Option Int := frF (brings pl to) l none
theorem frN_ge {pl : List Nd} {l : List Ct} {to e : Int} (hr : ∀ c ∈ l, rightC pl c = true ∧ c.n ≠ 0) (h : frN pl l to = some e) : 0 ≤ e :=
  frF_ge (fun c hc => (right_pl (hr c hc).1).2.2) (fun e he => by cases he) e h
theorem e_frI (pl : List Nd) (l : List Ct) (to : Int) (hp : pl.length < 2000000) (hk : okN pl) (W : Wf pl) (hl : l.length < 2000000) (hr : ∀ c ∈ l, rightC pl c = true ∧ c.n ≠ 0) : oc.call 131 [.lst false 0 (nds false 0 pl), .lst false 0 (cts l), .int .i64 to] = some (.tup [.int .i64 ((frN pl l to).getD 0), .bool (frN pl l to).isSome], []) := by
  refine fun_s rfl cd131 rfl rfl rfl (by simp; rfl) (by simp; rfl) ?_
  refine wa_ (wc_region (w_ (a_ (h := w_ (a_ (h := wo_nil (e_ (h := aft_normal (wa_ (wc_region (w_ (a_ (h := w_ (a_ (h := wo_nil (e_ (h := aft_normal (?_))))))))))))))))))
  refine wa_ (wa_ (wc_region (w_ (m_ (h := w_ (le (h := w_ (m_ (h := wo_nil (e_ (h := aft_normal (wc_block (?_)))))))))))))
  refine wc_loop (l_frI pl to l hp hk W hl hr (0, none) (by simp) _ (by simp [normE])) ?_
  refine blk_exit (aft_normal (wa_ (wc_region (w_ (m_ (h := w_ (m_ (h := w_ (a_ (h := w_ (a_ (h := wo_nil (e_ (h := aft_normal (wc_ret (?_))))))))))))))))
  all_goals (refine fin_ (hr := (res_tmp rfl (res_tmp rfl res_nil))) (h := ?_); (focus (simp [frN])))
theorem l_frS (pl : List Nd) (to : Int) (l : List Ct) (hp : pl.length < 2000000) (hk : okN pl) (W : Wf pl) (hl : l.length < 2000000) (hr : ∀ c ∈ l, rightC pl c = true ∧ c.n ≠ 0) : ∀ x : Nat × (Option Int), (x.1 ≤ l.length ∧ ∀ e, x.2 = some e → 0 ≤ e) → ∀ s, normE 3 (some [0, 1, 2, 7, 8]) s = ⟨[(0, .lst false 0 (nds false 0 pl)), (1, .lst false 0 (cts l)), (2, .int .i64 to), (7, .int .i64 (x.2.getD (-1))), (8, .int .i64 x.1)], [], 3⟩ →
    oc.loop 130 3 s = some (.exit 0, ⟨[(7, .int .i64 ((frF (brings pl to) (l.drop x.1) x.2).getD (-1)))], [], 3⟩) := by
  refine loop_ind (σ := Nat × (Option Int)) (fun x => l.length - x.1) _ (fun x => ⟨[(0, .lst false 0 (nds false 0 pl)), (1, .lst false 0 (cts l)), (2, .int .i64 to), (7, .int .i64 (x.2.getD (-1))), (8, .int .i64 x.1)], [], 3⟩) _ ?_
  rintro ⟨i, o⟩ hi ih s hs
  simp only at hi
  refine loop_s cd130 rfl rfl hs ?_
  obtain ⟨hi, ho⟩ := hi
  refine wa_ (wa_ (wc_region (w_ (m_ (h := w_ (m_ (h := w_ (le (h := w_ (b_ (h := wo_nil (e_ (h := aft_normal (?_))))))))))))))
  refine c_ (h1 := ?_) (h2 := ?_)
  rotate_right 1
  focus
   intro c1
   first
   | exact dn c1
   | (have d1 := c1; try simp at d1
      refine wc_exit (?_)
      )
  rotate_right 1
  focus
   intro c1
   first
   | exact dn c1
   | (have d1 := c1; try simp at d1
      have hw := wrap_succ (i := i) (by omega); obtain ⟨c, hx, e1, g1⟩ := cts_cut (l := l) (i := i) (by omega); obtain ⟨b1, b2, b3⟩ := right_pl (hr c (List.mem_of_getElem? hx)).1
      refine wc_skip (?_)
      )
  all_goals first
  | refine aft_exit ?_
  | (refine aft_normal ?_
     refine wa_ (wc_block (wa_ (wc_region (w_ (m_ (h := w_ (m_ (h := w_ (x_ (h := w_ (f_ (h := w_ (l_ (h := w_ (b_ (h := w_ (m_ (h := ?_))))))))))))))))))
     refine gw_ (h1 := ?_) (h2 := ?_)
     rotate_right 1
     focus
      intro c2
      first
      | exact dn c2
      | (have d2 := c2; try simp at d2
         refine go_ (h := go_ (h := go_ (h := go_ (h := go_ (h := go_ (h := go_ (h := go_ (h := ?_))))))))
         )
     rotate_right 1
     focus
      intro c2
      first
      | exact dn c2
      | (have d2 := c2; try simp at d2
         refine g_ (h := w_ (m_ (h := g_ (h := w_ (m_ (h := g_ (h := w_ (m_ (h := g_ (h := w_ (x_ (h := g_ (h := w_ (f_ (h := g_ (h := w_ (l_ (h := g_ (h := w_ (m_ (h := g_ (h := w_ (ca (hc := e_leadsS pl to hp hk W (2 * pl.length) c.pl (by omega) (by omega) (by omega)) (h := ?_))))))))))))))))))))))))
         )
     all_goals
      refine w_ (pk (h := w_ (m_ (h := ?_))))
      refine gw_ (h1 := ?_) (h2 := ?_)
      rotate_right 1
      focus
       intro c3
       first
       | exact dn c3
       | (have d3 := c3; try simp at d3
          refine go_ (h := go_ (h := go_ (h := ?_)))
          )
      rotate_right 1
      focus
       intro c3
       first
       | exact dn c3
       | (have d3 := c3; try simp at d3
          refine g_ (h := w_ (m_ (h := g_ (h := w_ (b_ (h := g_ (h := w_ (m_ (h := ?_)))))))))
          )
      all_goals
       first
       | (skip
          refine goN (h := goN (h := goN (h := goN (h := goN (h := goN (h := goN (h := ?_)))))))
          )
       | (refine gw_ (h1 := ?_) (h2 := ?_)
          rotate_right 1
          focus
           intro c4
           first
           | exact dn c4
           | (have d4 := c4; try simp at d4
              refine go_ (h := go_ (h := go_ (h := go_ (h := go_ (h := go_ (h := go_ (h := ?_)))))))
              )
          rotate_right 1
          focus
           intro c4
           first
           | exact dn c4
           | (have d4 := c4; try simp at d4
              refine g_ (h := w_ (m_ (h := g_ (h := w_ (m_ (h := g_ (h := w_ (x_ (h := g_ (h := w_ (f_ (h := g_ (h := w_ (l_ (h := g_ (h := w_ (m_ (h := g_ (h := w_ (b_ (h := ?_)))))))))))))))))))))
              )
          )
       all_goals
        first
        | (skip
           refine g_ (h := w_ (pk (h := ?_)))
           )
        | (skip
           refine go_ (h := ?_)
           )
        all_goals
         refine w_ (pk (h := wo_nil (e_ (h := ?_))))
     all_goals first
     | (refine aft_normal ?_
        refine c_ (h1 := ?_) (h2 := ?_)
        rotate_right 1
        focus
         intro c5
         first
         | exact dn c5
         | (have d5 := c5; try simp at d5
            refine wc_skip (?_)
            )
        rotate_right 1
        focus
         intro c5
         first
         | exact dn c5
         | (have d5 := c5; try simp at d5
            refine wc_region (w_ (m_ (h := w_ (m_ (h := w_ (x_ (h := w_ (f_ (h := w_ (l_ (h := w_ (a_ (h := wo_nil (e_ (h := ?_)))))))))))))))
            )
        )
     all_goals refine blk_normal ?_
     all_goals first
     | (refine aft_normal ?_
        refine wc_region (w_ (m_ (h := w_ (b_ (h := w_ (a_ (h := wo_nil (e_ (h := ?_)))))))))
        )
     )
  all_goals first
  | (refine (ih ((i + 1, some c.ep)) (⟨by simp; omega, by simp; omega⟩) ?_ _ ?_).trans ?_; (focus (first | omega | (simp; done) | (simp; omega))); (focus (simp [normE, hw]; done)); (focus (simp only [e1]; rw [frF_t (by simp [brings, d2, d3]) (by cases o with | none => rfl | some e => (have := ho e rfl; simp at d4 ⊢; first | omega | (simp at d5; omega)))])))
  | (refine (ih ((i + 1, o)) (⟨by simp; omega, ho⟩) ?_ _ ?_).trans ?_; (focus (first | omega | (simp; done) | (simp; omega))); (focus (simp [normE, hw]; done)); (focus (simp only [e1]; rw [frF_f (by first | (simp [brings, Int.not_lt.2 d2]; done) | (simp [brings, d3]; done) | (cases o with | none => (simp at d4) | some e => (simp at d5 ⊢; intro _; omega)))])))
  | (apply end_leaf (ex := (Ext.exit 0)) 3 (some [7]); (focus (simp [normE]; rfl)); (focus (simp only [List.drop_eq_nil_of_le (show l.length ≤ i by omega), frF])))
theorem e_frS (pl : List Nd) (l : List Ct) (to : Int) (hp : pl.length < 2000000) (hk : okN pl) (W : Wf pl) (hl : l.length < 2000000) (hr : ∀ c ∈ l, rightC pl c = true ∧ c.n ≠ 0) : oc.call 130 [.lst false 0 (nds false 0 pl), .lst false 0 (cts l), .int .i64 to] = some (.int .i64 ((frN pl l to).getD (-1)), []) := by
  refine fun_s rfl cd130 rfl rfl rfl (by simp; rfl) (by simp; rfl) ?_
  refine wa_ (wc_region (w_ (a_ (h := wo_nil (e_ (h := aft_normal (wa_ (wc_region (w_ (a_ (h := wo_nil (e_ (h := aft_normal (wa_ (wa_ (?_))))))))))))))))
  refine wc_region (w_ (a_ (h := wo_nil (e_ (h := aft_normal (wc_block (?_)))))))
  refine wc_loop (l_frS pl to l hp hk W hl hr (0, none) (by simp) _ (by simp [normE])) ?_
  refine blk_exit (aft_normal (wa_ (wc_region (w_ (m_ (h := w_ (a_ (h := wo_nil (e_ (h := aft_normal (wc_ret (?_))))))))))))
  all_goals (refine fin_ (hr := (res_tmp rfl res_nil)) (h := ?_); (focus (simp [frN])))
def pastN (pl : List Nd) (l : List Ct) (to ep : Int) : Bool := (frN pl l to).elim true fun e => decide (ep < e)
theorem e_isPast (pl : List Nd) (l : List Ct) (to ep : Int) (hp : pl.length < 2000000) (hk : okN pl) (W : Wf pl) (hl : l.length < 2000000) (hr : ∀ c ∈ l, rightC pl c = true ∧ c.n ≠ 0) : oc.call 129 [.lst false 0 (nds false 0 pl), .lst false 0 (cts l), .int .i64 to, .int .i64 ep] = some (.bool (pastN pl l to ep), []) := by
  refine fun_s rfl cd129 rfl rfl rfl (by simp; rfl) (by simp; rfl) ?_
  refine wa_ (wc_region (w_ (a_ (h := wo_nil (e_ (h := aft_normal (wa_ (wc_region (w_ (m_ (h := w_ (m_ (h := w_ (m_ (h := w_ (ca (hc := e_frI pl l to hp hk W hl hr) (h := w_ (m_ (h := ?_)))))))))))))))))))
  refine w_ (ex (h := w_ (ex (h := w_ (a_ (h := w_ (a_ (h := wo_nil (e_ (h := aft_normal (wa_ (wc_region (w_ (m_ (h := w_ (u_ (h := w_ (m_ (h := ?_)))))))))))))))))))
  refine gw_ (h1 := ?_) (h2 := ?_)
  rotate_right 1
  focus
   intro c1
   refine go_ (h := go_ (h := go_ (h := ?_)))
  rotate_right 1
  focus
   intro c1
   refine g_ (h := w_ (m_ (h := g_ (h := w_ (m_ (h := g_ (h := w_ (b_ (h := ?_)))))))))
  all_goals
   refine w_ (pk (h := w_ (a_ (h := wo_nil (e_ (h := ?_))))))
  all_goals first
  | (refine aft_normal ?_
     refine wc_ret (?_)
     )
  all_goals (refine fin_ (hr := (res_tmp rfl res_nil)) (h := ?_); (focus (clear hk W hr; unfold pastN; cases h : frN pl l to <;> simp [h] at *)))
theorem e_l7Past (pl : List Nd) (l : List Ct) (to ep : Int) (hp : pl.length < 2000000) (hk : okN pl) (W : Wf pl) (hl : l.length < 2000000) (hr : ∀ c ∈ l, rightC pl c = true ∧ c.n ≠ 0) : oc.call 128 [.lst false 0 (nds false 0 pl), .lst false 0 (cts l), .int .i64 to, .int .i64 ep] = some (.bool (pastN pl l to ep), []) := by
  refine fun_s rfl cd128 rfl rfl rfl (by simp; rfl) (by simp; rfl) ?_
  refine wa_ (wc_region (w_ (a_ (h := wo_nil (e_ (h := aft_normal (wa_ (wc_region (w_ (m_ (h := w_ (m_ (h := w_ (m_ (h := w_ (ca (hc := e_frS pl l to hp hk W hl hr) (h := w_ (a_ (h := ?_)))))))))))))))))))
  refine wo_nil (e_ (h := aft_normal (wa_ (wc_region (w_ (m_ (h := w_ (b_ (h := w_ (m_ (h := ?_)))))))))))
  refine gw_ (h1 := ?_) (h2 := ?_)
  rotate_right 1
  focus
   intro c1
   refine go_ (h := go_ (h := go_ (h := ?_)))
  rotate_right 1
  focus
   intro c1
   refine g_ (h := w_ (m_ (h := g_ (h := w_ (m_ (h := g_ (h := w_ (b_ (h := ?_)))))))))
  all_goals
   refine w_ (pk (h := w_ (a_ (h := wo_nil (e_ (h := ?_))))))
  all_goals first
  | (refine aft_normal ?_
     refine wc_ret (?_)
     )
  all_goals (refine fin_ (hr := (res_tmp rfl res_nil)) (h := ?_); (focus (have hge : ∀ e, frN pl l to = some e → 0 ≤ e := (fun e he => frN_ge hr he); clear hk W hr; unfold pastN; cases h : frN pl l to <;> simp [h] at * <;> omega)))
def pastAtN (pl : List Nd) (l : List Ct) (to ep : Int) : Bool := decide (ctsN pl l = 0) && (isPl pl to && pastN pl l to ep)
theorem ctsN_zero {pl : List Nd} {l : List Ct} (h : ctsN pl l = 0) : (lookN pl).2 = 0 ∧ ctsF pl l = 0 := by
  unfold ctsN at h; split at h
  · exact ⟨‹_›, h⟩
  · exact absurd h ‹_›
theorem e_pastAtI (pl : List Nd) (l : List Ct) (to ep : Int) (hp : pl.length < 2000000) (hk : okN pl) (hl : l.length < 2000000) : oc.call 63 [.lst false 0 (nds false 0 pl), .lst false 0 (cts l), .int .i64 to, .int .i64 ep] = some (.bool (pastAtN pl l to ep), []) := by
  refine fun_s rfl cd63 rfl rfl rfl (by simp; rfl) (by simp; rfl) ?_
  refine wa_ (wc_region (w_ (a_ (h := wo_nil (e_ (h := aft_normal (wa_ (wc_region (w_ (m_ (h := w_ (m_ (h := w_ (ca (hc := e_ctsFI pl l hp hk) (h := w_ (bE (h := w_ (m_ (h := ?_)))))))))))))))))))
  refine gw_ (h1 := ?_) (h2 := ?_)
  rotate_right 1
  focus
   intro c1
   first
   | exact dn c1
   | (have d1 := c1; try simp at d1
      refine go_ (h := go_ (h := go_ (h := ?_)))
      )
  rotate_right 1
  focus
   intro c1
   first
   | exact dn c1
   | (have d1 := c1; try simp at d1
      refine g_ (h := w_ (m_ (h := g_ (h := w_ (m_ (h := g_ (h := w_ (ca (hc := e_isPlace pl _ hp) (h := ?_)))))))))
      )
  all_goals
   refine w_ (pk (h := w_ (m_ (h := ?_))))
   refine gw_ (h1 := ?_) (h2 := ?_)
   rotate_right 1
   focus
    intro c2
    first
    | exact dn c2
    | (have d2 := c2; try simp at d2
       refine go_ (h := go_ (h := go_ (h := go_ (h := go_ (h := ?_)))))
       )
   rotate_right 1
   focus
    intro c2
    first
    | exact dn c2
    | (have d2 := c2; try simp at d2
       refine g_ (h := w_ (m_ (h := g_ (h := w_ (m_ (h := g_ (h := w_ (m_ (h := g_ (h := w_ (m_ (h := g_ (h := w_ (ca (hc := e_isPast pl l to ep hp hk (look_wf (ctsN_zero d1).1) hl (ctsF_right (ctsN_zero d1).2)) (h := ?_)))))))))))))))
       )
   all_goals
    refine w_ (pk (h := w_ (a_ (h := wo_nil (e_ (h := ?_))))))
  all_goals first
  | (refine aft_normal ?_
     refine wc_ret (?_)
     )
  all_goals (refine fin_ (hr := (res_tmp rfl res_nil)) (h := ?_); (focus (clear hk; simp [pastAtN] at * <;> grind)))
theorem e_pastAtS (pl : List Nd) (l : List Ct) (to ep : Int) (hp : pl.length < 2000000) (hk : okN pl) (hl : l.length < 2000000) : oc.call 62 [.lst false 0 (nds false 0 pl), .lst false 0 (cts l), .int .i64 to, .int .i64 ep] = some (.bool (pastAtN pl l to ep), []) := by
  refine fun_s rfl cd62 rfl rfl rfl (by simp; rfl) (by simp; rfl) ?_
  refine wa_ (wc_region (w_ (a_ (h := wo_nil (e_ (h := aft_normal (wa_ (wc_region (w_ (m_ (h := w_ (m_ (h := w_ (ca (hc := e_ctsFS pl l hp hk) (h := w_ (bE (h := w_ (m_ (h := ?_)))))))))))))))))))
  refine gw_ (h1 := ?_) (h2 := ?_)
  rotate_right 1
  focus
   intro c1
   first
   | exact dn c1
   | (have d1 := c1; try simp at d1
      refine go_ (h := go_ (h := go_ (h := ?_)))
      )
  rotate_right 1
  focus
   intro c1
   first
   | exact dn c1
   | (have d1 := c1; try simp at d1
      refine g_ (h := w_ (m_ (h := g_ (h := w_ (m_ (h := g_ (h := w_ (ca (hc := e_l7Place pl _ hp) (h := ?_)))))))))
      )
  all_goals
   refine w_ (pk (h := w_ (m_ (h := ?_))))
   refine gw_ (h1 := ?_) (h2 := ?_)
   rotate_right 1
   focus
    intro c2
    first
    | exact dn c2
    | (have d2 := c2; try simp at d2
       refine go_ (h := go_ (h := go_ (h := go_ (h := go_ (h := ?_)))))
       )
   rotate_right 1
   focus
    intro c2
    first
    | exact dn c2
    | (have d2 := c2; try simp at d2
       refine g_ (h := w_ (m_ (h := g_ (h := w_ (m_ (h := g_ (h := w_ (m_ (h := g_ (h := w_ (m_ (h := g_ (h := w_ (ca (hc := e_l7Past pl l to ep hp hk (look_wf (ctsN_zero d1).1) hl (ctsF_right (ctsN_zero d1).2)) (h := ?_)))))))))))))))
       )
   all_goals
    refine w_ (pk (h := w_ (a_ (h := wo_nil (e_ (h := ?_))))))
  all_goals first
  | (refine aft_normal ?_
     refine wc_ret (?_)
     )
  all_goals (refine fin_ (hr := (res_tmp rfl res_nil)) (h := ?_); (focus (clear hk; simp [pastAtN] at * <;> grind)))
def frAtN (pl : List Nd) (l : List Ct) (to : Int) : Int × Int := if ctsN pl l = 0 then (if isPl pl to = true then (frN pl l to).elim (4, 0) fun e => (0, e) else (3, 0)) else (ctsN pl l, 0)
theorem e_frAtI (pl : List Nd) (l : List Ct) (to : Int) (hp : pl.length < 2000000) (hk : okN pl) (hl : l.length < 2000000) : oc.call 65 [.lst false 0 (nds false 0 pl), .lst false 0 (cts l), .int .i64 to] = some (.agg [.int .i64 (frAtN pl l to).1, .int .i64 (frAtN pl l to).2], []) := by
  refine fun_s rfl cd65 rfl rfl rfl (by simp; rfl) (by simp; rfl) ?_
  refine wa_ (wc_region (w_ (al (h := wo_nil (e_ (h := aft_normal (wa_ (wa_ (wc_region (w_ (m_ (h := w_ (m_ (h := w_ (ca (hc := e_ctsFI pl l hp hk) (h := w_ (a_ (h := ?_))))))))))))))))))
  refine wo_nil (e_ (h := aft_normal (wa_ (wc_region (w_ (m_ (h := w_ (bE (h := wo_nil (e_ (h := aft_normal (?_))))))))))))
  refine c_ (h1 := ?_) (h2 := ?_)
  rotate_right 1
  focus
   intro c1
   first
   | exact dn c1
   | (have d1 := c1; try simp at d1
      refine wc_skip (?_)
      )
  rotate_right 1
  focus
   intro c1
   first
   | exact dn c1
   | (have d1 := c1; try simp at d1
      refine wa_ (wc_region (w_ (m_ (h := w_ (bd (h := w0 (s_ (h := wo_nil (e_ (h := aft_normal (wc_ret (?_))))))))))))
      )
  all_goals first
  | refine aft_ret ?_
  | (refine aft_normal ?_
     refine wa_ (wa_ (wc_region (w_ (m_ (h := w_ (m_ (h := w_ (ca (hc := e_isPlace pl _ hp) (h := w_ (u_ (h := wo_nil (e_ (h := aft_normal (?_))))))))))))))
     refine c_ (h1 := ?_) (h2 := ?_)
     rotate_right 1
     focus
      intro c2
      first
      | exact dn c2
      | (have d2 := c2; try simp at d2
         refine wc_skip (?_)
         )
     rotate_right 1
     focus
      intro c2
      first
      | exact dn c2
      | (have d2 := c2; try simp at d2
         refine wa_ (wc_region (w_ (bd (h := w0 (s_ (h := wo_nil (e_ (h := aft_normal (wc_ret (?_))))))))))
         )
     all_goals first
     | refine aft_ret ?_
     | (refine aft_normal ?_
        refine wa_ (wc_region (w_ (m_ (h := w_ (m_ (h := w_ (m_ (h := w_ (ca (hc := e_frI pl l to hp hk (look_wf (ctsN_zero d1).1) hl (ctsF_right (ctsN_zero d1).2)) (h := w_ (m_ (h := w_ (ex (h := w_ (ex (h := w_ (a_ (h := w_ (a_ (h := wo_nil (e_ (h := ?_))))))))))))))))))))))
        refine aft_normal (wa_ (wa_ (wc_region (w_ (m_ (h := w_ (u_ (h := wo_nil (e_ (h := aft_normal (?_)))))))))))
        refine c_ (h1 := ?_) (h2 := ?_)
        rotate_right 1
        focus
         intro c3
         first
         | exact dn c3
         | (have d3 := c3; try simp at d3
            refine wc_skip (?_)
            )
        rotate_right 1
        focus
         intro c3
         first
         | exact dn c3
         | (have d3 := c3; try simp at d3
            refine wa_ (wc_region (w_ (bd (h := w0 (s_ (h := wo_nil (e_ (h := aft_normal (wc_ret (?_))))))))))
            )
        all_goals first
        | refine aft_ret ?_
        | (refine aft_normal ?_
           refine wa_ (wc_region (w_ (m_ (h := w_ (bd (h := w0 (s_ (h := wo_nil (e_ (h := aft_normal (wc_ret (?_))))))))))))
           )
        )
     )
  all_goals (refine fin_ (hr := (res_cell (tys_ok.zero _ _ rfl) rfl (by simp; rfl) (by rfl) res_nil)) (h := ?_); (focus (clear hk; unfold frAtN; cases h : frN pl l to <;> simp_all)))
theorem e_frAtS (pl : List Nd) (l : List Ct) (to : Int) (hp : pl.length < 2000000) (hk : okN pl) (hl : l.length < 2000000) : oc.call 64 [.lst false 0 (nds false 0 pl), .lst false 0 (cts l), .int .i64 to] = some (.agg [.int .i64 (frAtN pl l to).1, .int .i64 (frAtN pl l to).2], []) := by
  refine fun_s rfl cd64 rfl rfl rfl (by simp; rfl) (by simp; rfl) ?_
  refine wa_ (wc_region (w_ (al (h := wo_nil (e_ (h := aft_normal (wa_ (wa_ (wc_region (w_ (m_ (h := w_ (m_ (h := w_ (ca (hc := e_ctsFS pl l hp hk) (h := w_ (a_ (h := ?_))))))))))))))))))
  refine wo_nil (e_ (h := aft_normal (wa_ (wc_region (w_ (m_ (h := w_ (bE (h := wo_nil (e_ (h := aft_normal (?_))))))))))))
  refine c_ (h1 := ?_) (h2 := ?_)
  rotate_right 1
  focus
   intro c1
   first
   | exact dn c1
   | (have d1 := c1; try simp at d1
      refine wc_skip (?_)
      )
  rotate_right 1
  focus
   intro c1
   first
   | exact dn c1
   | (have d1 := c1; try simp at d1
      refine wa_ (wc_region (w_ (m_ (h := w_ (bd (h := w0 (s_ (h := wo_nil (e_ (h := aft_normal (wc_ret (?_))))))))))))
      )
  all_goals first
  | refine aft_ret ?_
  | (refine aft_normal ?_
     refine wa_ (wa_ (wc_region (w_ (m_ (h := w_ (m_ (h := w_ (ca (hc := e_l7Place pl _ hp) (h := w_ (u_ (h := wo_nil (e_ (h := aft_normal (?_))))))))))))))
     refine c_ (h1 := ?_) (h2 := ?_)
     rotate_right 1
     focus
      intro c2
      first
      | exact dn c2
      | (have d2 := c2; try simp at d2
         refine wc_skip (?_)
         )
     rotate_right 1
     focus
      intro c2
      first
      | exact dn c2
      | (have d2 := c2; try simp at d2
         refine wa_ (wc_region (w_ (bd (h := w0 (s_ (h := wo_nil (e_ (h := aft_normal (wc_ret (?_))))))))))
         )
     all_goals first
     | refine aft_ret ?_
     | (refine aft_normal ?_
        refine wa_ (wc_region (w_ (m_ (h := w_ (m_ (h := w_ (m_ (h := w_ (ca (hc := e_frS pl l to hp hk (look_wf (ctsN_zero d1).1) hl (ctsF_right (ctsN_zero d1).2)) (h := w_ (a_ (h := wo_nil (e_ (h := aft_normal (wa_ (wa_ (wc_region (?_))))))))))))))))))
        refine w_ (m_ (h := w_ (b_ (h := wo_nil (e_ (h := aft_normal (?_)))))))
        refine c_ (h1 := ?_) (h2 := ?_)
        rotate_right 1
        focus
         intro c3
         first
         | exact dn c3
         | (have d3 := c3; try simp at d3
            refine wc_skip (?_)
            )
        rotate_right 1
        focus
         intro c3
         first
         | exact dn c3
         | (have d3 := c3; try simp at d3
            refine wa_ (wc_region (w_ (bd (h := w0 (s_ (h := wo_nil (e_ (h := aft_normal (wc_ret (?_))))))))))
            )
        all_goals first
        | refine aft_ret ?_
        | (refine aft_normal ?_
           refine wa_ (wc_region (w_ (m_ (h := w_ (bd (h := w0 (s_ (h := wo_nil (e_ (h := aft_normal (wc_ret (?_))))))))))))
           )
        )
     )
  all_goals (refine fin_ (hr := (res_cell (tys_ok.zero _ _ rfl) rfl (by simp; rfl) (by rfl) res_nil)) (h := ?_); (focus (first | (have hge : ∀ e, frN pl l to = some e → 0 ≤ e := (fun e he => frN_ge (ctsF_right (ctsN_zero d1).2) he); clear hk; unfold frAtN; cases h : frN pl l to <;> simp [h, d1, d2] at * <;> omega) | (clear hk; simp [frAtN, *]))))
theorem e_eqIR (a b c d : Int) : oc.call 18 [.agg [.int .i64 a, .int .i64 b], .agg [.int .i64 c, .int .i64 d]] = some (.bool (decide (a = c ∧ b = d)), []) := by
  refine fun_s rfl cd18 rfl rfl rfl (by simp; rfl) (by simp; rfl) ?_
  refine wa_ (wc_region (w_ (bx (h := w_ (bx (h := w_ (a_ (h := wo_nil (e_ (h := aft_normal (wa_ (wa_ (wc_region (w_ (f_ (h := w_ (l_ (h := ?_))))))))))))))))))
  refine w_ (f_ (h := w_ (l_ (h := w_ (bE (h := wo_nil (e_ (h := aft_normal (?_)))))))))
  refine c_ (h1 := ?_) (h2 := ?_)
  rotate_right 1
  focus
   intro c1
   refine wc_skip (?_)
  rotate_right 1
  focus
   intro c1
   refine wa_ (wc_region (w_ (a_ (h := wo_nil (e_ (h := aft_normal (wc_ret (?_))))))))
  all_goals first
  | refine aft_ret ?_
  | (refine aft_normal ?_
     refine wa_ (wa_ (wc_region (w_ (f_ (h := w_ (l_ (h := w_ (f_ (h := w_ (l_ (h := w_ (bE (h := wo_nil (e_ (h := aft_normal (?_))))))))))))))))
     refine c_ (h1 := ?_) (h2 := ?_)
     rotate_right 1
     focus
      intro c2
      refine wc_skip (?_)
     rotate_right 1
     focus
      intro c2
      refine wa_ (wc_region (w_ (a_ (h := wo_nil (e_ (h := aft_normal (wc_ret (?_))))))))
     all_goals first
     | refine aft_ret ?_
     | (refine aft_normal ?_
        refine wa_ (wc_region (w_ (a_ (h := wo_nil (e_ (h := aft_normal (wc_ret (?_))))))))
        )
     )
  all_goals (refine fin_ (hr := (res_tmp rfl res_nil)) (h := ?_); (focus (simp at * <;> grind)))
theorem law_pastAt (pl : List Nd) (l : List Ct) (to ep : Int) (ho : okB pl) (hl : l.length ≤ 140737488351232) : oc.call 12 [.lst false 0 (nds false 0 pl), .lst false 0 (cts l), .int .i64 to, .int .i64 ep] = some (.bool true, []) := by
  refine fun_s rfl cd12 rfl rfl rfl (by simp; rfl) (by simp; rfl) ?_
  refine wa_ (wc_region (w_ (a_ (h := wo_nil (e_ (h := aft_normal (wa_ (wc_region (w_ (a_ (h := wo_nil (e_ (h := aft_normal (wa_ (wc_region (?_))))))))))))))))
  refine w_ (m_ (h := w_ (m_ (h := w_ (ca (hc := e_szNS pl 0 1048576 ho (by omega) (by omega)) (h := w_ (a_ (h := wo_nil (e_ (h := aft_normal (wa_ (wa_ (wc_region (w_ (m_ (h := w_ (b_ (h := wo_nil (e_ (h := ?_))))))))))))))))))))
  refine aft_normal (?_)
  refine c_ (h1 := ?_) (h2 := ?_)
  rotate_right 1
  focus
   intro c1
   first
   | exact dn c1
   | (have d1 := c1; try simp at d1
      obtain ⟨h1, h2, h3⟩ := szP_ok (l := pl) (a := 1048576) (by omega) (by omega)
      refine wc_skip (?_)
      )
  rotate_right 1
  focus
   intro c1
   first
   | exact dn c1
   | (have d1 := c1; try simp at d1
      refine wa_ (wc_region (w_ (a_ (h := wo_nil (e_ (h := aft_normal (wc_ret (?_))))))))
      )
  all_goals first
  | refine aft_ret ?_
  | (refine aft_normal ?_
     refine wa_ (wc_region (w_ (m_ (h := w_ (m_ (h := w_ (ca (hc := sz_Cts l (szP pl 1048576) hl (by omega) (by omega)) (h := w_ (a_ (h := wo_nil (e_ (h := aft_normal (wa_ (wa_ (wc_region (w_ (m_ (h := ?_))))))))))))))))))
     refine w_ (b_ (h := wo_nil (e_ (h := aft_normal (?_)))))
     refine c_ (h1 := ?_) (h2 := ?_)
     rotate_right 1
     focus
      intro c2
      first
      | exact dn c2
      | (have d2 := c2; try simp at d2
         obtain ⟨h4, h5⟩ := szI_pos (n := l.length) (a := szP pl 1048576) (by omega)
         refine wc_skip (?_)
         )
     rotate_right 1
     focus
      intro c2
      first
      | exact dn c2
      | (have d2 := c2; try simp at d2
         refine wa_ (wc_region (w_ (a_ (h := wo_nil (e_ (h := aft_normal (wc_ret (?_))))))))
         )
     all_goals first
     | refine aft_ret ?_
     | (refine aft_normal ?_
        refine wa_ (wc_region (w_ (m_ (h := w_ (ca (hc := e_toNS pl 0 h1 h2) (h := w_ (m_ (h := w_ (ca (hc := to_Cts l (by omega)) (h := w_ (m_ (h := w_ (m_ (h := w_ (ca (hc := e_pastAtS pl l to ep h1 h2 (by omega)) (h := w_ (a_ (h := wo_nil (e_ (h := aft_normal (?_)))))))))))))))))))))
        refine wa_ (wc_region (w_ (m_ (h := w_ (ca (hc := e_toNS pl 0 h1 h2) (h := w_ (a_ (h := wo_nil (e_ (h := aft_normal (wa_ (wc_region (w_ (m_ (h := w_ (ca (hc := to_Cts l (by omega)) (h := w_ (a_ (h := ?_)))))))))))))))))))
        refine wo_nil (e_ (h := aft_normal (wa_ (wc_region (w_ (m_ (h := w_ (m_ (h := w_ (m_ (h := w_ (m_ (h := w_ (ca (hc := e_pastAtI pl l to ep h1 h2 (by omega)) (h := w_ (a_ (h := wo_nil (e_ (h := aft_normal (?_))))))))))))))))))))
        refine wa_ (wa_ (wc_region (w_ (m_ (h := w_ (m_ (h := w_ (bE (h := wo_nil (e_ (h := aft_normal (?_))))))))))))
        refine c_ (h1 := ?_) (h2 := ?_)
        rotate_right 1
        focus
         intro c3
         first
         | exact dn c3
         | (have d3 := c3; try simp at d3
            refine wc_skip (?_)
            )
        rotate_right 1
        focus
         intro c3
         first
         | exact dn c3
         | (have d3 := c3; try simp at d3
            refine wa_ (wc_region (w_ (a_ (h := wo_nil (e_ (h := aft_normal (wc_ret (?_))))))))
            )
        all_goals first
        | refine aft_ret ?_
        | (refine aft_normal ?_
           refine wa_ (wa_ (wc_region (w_ (m_ (h := w_ (m_ (h := w_ (ca (hc := e_toNS pl 0 h1 h2) (h := w_ (ca (hc := e_eqNS pl pl 0 0 h1 h1 h2 h2) (h := w_ (u_ (h := wo_nil (e_ (h := aft_normal (?_))))))))))))))))
           refine c_ (h1 := ?_) (h2 := ?_)
           rotate_right 1
           focus
            intro c4
            first
            | exact dn c4
            | (have d4 := c4; try simp at d4
               refine wc_skip (?_)
               )
           rotate_right 1
           focus
            intro c4
            first
            | exact dn c4
            | (have d4 := c4; try simp at d4
               refine wa_ (wc_region (w_ (a_ (h := wo_nil (e_ (h := aft_normal (wc_ret (?_))))))))
               )
           all_goals first
           | refine aft_ret ?_
           | (refine aft_normal ?_
              refine wa_ (wa_ (wc_region (w_ (m_ (h := w_ (m_ (h := w_ (ca (hc := to_Cts l (by omega)) (h := w_ (ca (hc := eq_Cts l l (by omega) (by omega)) (h := w_ (u_ (h := wo_nil (e_ (h := aft_normal (?_))))))))))))))))
              refine c_ (h1 := ?_) (h2 := ?_)
              rotate_right 1
              focus
               intro c5
               first
               | exact dn c5
               | (have d5 := c5; try simp at d5
                  refine wc_skip (?_)
                  )
              rotate_right 1
              focus
               intro c5
               first
               | exact dn c5
               | (have d5 := c5; try simp at d5
                  refine wa_ (wc_region (w_ (a_ (h := wo_nil (e_ (h := aft_normal (wc_ret (?_))))))))
                  )
              all_goals first
              | refine aft_ret ?_
              | (refine aft_normal ?_
                 refine wa_ (wc_region (w_ (a_ (h := wo_nil (e_ (h := aft_normal (wc_ret (?_))))))))
                 )
              )
           )
        )
     )
  all_goals (refine fin_ (hr := (res_tmp rfl res_nil)) (h := ?_); (focus (simp)))
theorem law_frontierAt (pl : List Nd) (l : List Ct) (to : Int) (ho : okB pl) (hl : l.length ≤ 140737488351232) : oc.call 13 [.lst false 0 (nds false 0 pl), .lst false 0 (cts l), .int .i64 to] = some (.bool true, []) := by
  refine fun_s rfl cd13 rfl rfl rfl (by simp; rfl) (by simp; rfl) ?_
  refine wa_ (wc_region (w_ (a_ (h := wo_nil (e_ (h := aft_normal (wa_ (wc_region (w_ (a_ (h := wo_nil (e_ (h := aft_normal (wa_ (wc_region (?_))))))))))))))))
  refine w_ (m_ (h := w_ (m_ (h := w_ (ca (hc := e_szNS pl 0 1048576 ho (by omega) (by omega)) (h := w_ (a_ (h := wo_nil (e_ (h := aft_normal (wa_ (wa_ (wc_region (w_ (m_ (h := w_ (b_ (h := wo_nil (e_ (h := ?_))))))))))))))))))))
  refine aft_normal (?_)
  refine c_ (h1 := ?_) (h2 := ?_)
  rotate_right 1
  focus
   intro c1
   first
   | exact dn c1
   | (have d1 := c1; try simp at d1
      obtain ⟨h1, h2, h3⟩ := szP_ok (l := pl) (a := 1048576) (by omega) (by omega)
      refine wc_skip (?_)
      )
  rotate_right 1
  focus
   intro c1
   first
   | exact dn c1
   | (have d1 := c1; try simp at d1
      refine wa_ (wc_region (w_ (a_ (h := wo_nil (e_ (h := aft_normal (wc_ret (?_))))))))
      )
  all_goals first
  | refine aft_ret ?_
  | (refine aft_normal ?_
     refine wa_ (wc_region (w_ (m_ (h := w_ (m_ (h := w_ (ca (hc := sz_Cts l (szP pl 1048576) hl (by omega) (by omega)) (h := w_ (a_ (h := wo_nil (e_ (h := aft_normal (wa_ (wa_ (wc_region (w_ (m_ (h := ?_))))))))))))))))))
     refine w_ (b_ (h := wo_nil (e_ (h := aft_normal (?_)))))
     refine c_ (h1 := ?_) (h2 := ?_)
     rotate_right 1
     focus
      intro c2
      first
      | exact dn c2
      | (have d2 := c2; try simp at d2
         obtain ⟨h4, h5⟩ := szI_pos (n := l.length) (a := szP pl 1048576) (by omega)
         refine wc_skip (?_)
         )
     rotate_right 1
     focus
      intro c2
      first
      | exact dn c2
      | (have d2 := c2; try simp at d2
         refine wa_ (wc_region (w_ (a_ (h := wo_nil (e_ (h := aft_normal (wc_ret (?_))))))))
         )
     all_goals first
     | refine aft_ret ?_
     | (refine aft_normal ?_
        refine wa_ (wc_region (w_ (m_ (h := w_ (ca (hc := e_toNS pl 0 h1 h2) (h := w_ (m_ (h := w_ (ca (hc := to_Cts l (by omega)) (h := w_ (m_ (h := w_ (ca (hc := e_frAtS pl l to h1 h2 (by omega)) (h := w_ (al (h := w0 (s_ (h := wo_nil (e_ (h := aft_normal (?_)))))))))))))))))))))
        refine wa_ (wc_region (w_ (m_ (h := w_ (ca (hc := e_toNS pl 0 h1 h2) (h := w_ (a_ (h := wo_nil (e_ (h := aft_normal (wa_ (wc_region (w_ (m_ (h := w_ (ca (hc := to_Cts l (by omega)) (h := w_ (a_ (h := ?_)))))))))))))))))))
        refine wo_nil (e_ (h := aft_normal (wa_ (wc_region (w_ (m_ (h := w_ (m_ (h := w_ (m_ (h := w_ (ca (hc := e_frAtI pl l to h1 h2 (by omega)) (h := w_ (al (h := w0 (s_ (h := wo_nil (e_ (h := aft_normal (?_))))))))))))))))))))
        refine wa_ (wa_ (wc_region (w_ (l_ (h := w_ (l_ (h := w_ (ca (hc := e_eqIR _ _ _ _) (h := w_ (u_ (h := wo_nil (e_ (h := aft_normal (?_))))))))))))))
        refine c_ (h1 := ?_) (h2 := ?_)
        rotate_right 1
        focus
         intro c3
         first
         | exact dn c3
         | (have d3 := c3; try simp at d3
            refine wc_skip (?_)
            )
        rotate_right 1
        focus
         intro c3
         first
         | exact dn c3
         | (have d3 := c3; try simp at d3
            refine wa_ (wc_region (w_ (a_ (h := wo_nil (e_ (h := aft_normal (wc_ret (?_))))))))
            )
        all_goals first
        | refine aft_ret ?_
        | (refine aft_normal ?_
           refine wa_ (wa_ (wc_region (w_ (m_ (h := w_ (m_ (h := w_ (ca (hc := e_toNS pl 0 h1 h2) (h := w_ (ca (hc := e_eqNS pl pl 0 0 h1 h1 h2 h2) (h := w_ (u_ (h := wo_nil (e_ (h := aft_normal (?_))))))))))))))))
           refine c_ (h1 := ?_) (h2 := ?_)
           rotate_right 1
           focus
            intro c4
            first
            | exact dn c4
            | (have d4 := c4; try simp at d4
               refine wc_skip (?_)
               )
           rotate_right 1
           focus
            intro c4
            first
            | exact dn c4
            | (have d4 := c4; try simp at d4
               refine wa_ (wc_region (w_ (a_ (h := wo_nil (e_ (h := aft_normal (wc_ret (?_))))))))
               )
           all_goals first
           | refine aft_ret ?_
           | (refine aft_normal ?_
              refine wa_ (wa_ (wc_region (w_ (m_ (h := w_ (m_ (h := w_ (ca (hc := to_Cts l (by omega)) (h := w_ (ca (hc := eq_Cts l l (by omega) (by omega)) (h := w_ (u_ (h := wo_nil (e_ (h := aft_normal (?_))))))))))))))))
              refine c_ (h1 := ?_) (h2 := ?_)
              rotate_right 1
              focus
               intro c5
               first
               | exact dn c5
               | (have d5 := c5; try simp at d5
                  refine wc_skip (?_)
                  )
              rotate_right 1
              focus
               intro c5
               first
               | exact dn c5
               | (have d5 := c5; try simp at d5
                  refine wa_ (wc_region (w_ (a_ (h := wo_nil (e_ (h := aft_normal (wc_ret (?_))))))))
                  )
              all_goals first
              | refine aft_ret ?_
              | (refine aft_normal ?_
                 refine wa_ (wc_region (w_ (a_ (h := wo_nil (e_ (h := aft_normal (wc_ret (?_))))))))
                 )
              )
           )
        )
     )
  all_goals (refine fin_ (hr := (res_tmp rfl res_nil)) (h := ?_); (focus (simp)))
end Go.Proofs.Ytmednhpmcplplaa.Ev
namespace Go.Proofs.Ytmednhpmcplplaa.Ev
open Go
set_option maxRecDepth 100000
set_option linter.unusedSimpArgs false
set_option linter.unusedVariables false
set_option maxHeartbeats 2000000
def rowF (r : List Int) : Int := if 4 < r.length then 2 else if r.all (fun c => inI c (-1000000000) 1000000000) = true then 0 else 3
theorem l_rowI (r : List Int) (hr : r.length ≤ 4) : ∀ i : Nat, (i ≤ r.length) → ∀ s, normE 1 (some [8, 9, 10]) s = ⟨[(8, .lst false 0 (ints r)), (9, .int .i64 r.length), (10, .int .i64 i)], [], 1⟩ →
    oc.loop 75 4 s = some (if (r.drop i).all (fun c => inI c (-1000000000) 1000000000) = true then (.exit 0, ⟨[], [], 1⟩) else (.ret, ⟨[(2, .int .i64 3)], [], 1⟩)) := by
  refine loop_ind (σ := Nat) (fun i => r.length - i) _ (fun i => ⟨[(8, .lst false 0 (ints r)), (9, .int .i64 r.length), (10, .int .i64 i)], [], 1⟩) _ ?_
  intro i hi ih s hs
  refine loop_s cd75 rfl rfl hs ?_
  refine wa_ (wc_region (w_ (b_ (h := wo_nil (e_ (h := aft_normal (wa_ (?_))))))))
  refine c_ (h1 := ?_) (h2 := ?_)
  rotate_right 1
  focus
   intro c1
   first
   | exact dn c1
   | (have d1 := c1; try simp at d1
      refine wc_exit (?_)
      )
  rotate_right 1
  focus
   intro c1
   first
   | exact dn c1
   | (have d1 := c1; try simp at d1
      have hw := wrap_succ (i := i) (by omega); obtain ⟨x, hx, e1, g1⟩ := ints_cut (l := r) (i := i) (by omega)
      refine wc_skip (?_)
      )
  all_goals first
  | refine aft_exit ?_
  | (refine aft_normal ?_
     refine wa_ (wc_block (wa_ (wc_region (w_ (x_ (h := w_ (l_ (h := w_ (a_ (h := wo_nil (e_ (h := aft_normal (wa_ (wc_region (w_ (m_ (h := ?_)))))))))))))))))
     refine w_ (ca (hc := e_in _ _ _) (h := w_ (u_ (h := wo_nil (e_ (h := aft_normal (?_)))))))
     refine c_ (h1 := ?_) (h2 := ?_)
     rotate_right 1
     focus
      intro c2
      first
      | exact dn c2
      | (have d2 := c2; try simp at d2
         refine wc_skip (?_)
         )
     rotate_right 1
     focus
      intro c2
      first
      | exact dn c2
      | (have d2 := c2; try simp at d2
         refine wa_ (wc_region (w_ (a_ (h := wo_nil (e_ (h := aft_normal (wc_ret (?_))))))))
         )
     all_goals first | refine blk_normal ?_ | refine blk_ret ?_
     all_goals first
     | refine aft_ret ?_
     | (refine aft_normal ?_
        refine wc_region (w_ (b_ (h := w_ (m_ (h := wo_nil (e_ (h := ?_)))))))
        )
     )
  all_goals first
  | (refine (ih (i + 1) (by omega) ?_ _ ?_).trans ?_; (focus (first | omega | (simp; done) | (simp; omega))); (focus (simp [normE, hw]; done)); (focus (rw [e1]; simp [d2])))
  | (apply end_leaf (ex := Ext.ret) 1 (some [2]); (focus (simp [normE]; rfl)); (focus (rw [e1]; simp [d2])))
  | (apply end_leaf (ex := (Ext.exit 0)) 1 (some [2]); (focus (simp [normE]; rfl)); (focus (rw [List.drop_eq_nil_of_le (by omega)]; simp)))
theorem e_rowI (r : List Int) (h : r.length < 2000000) : oc.call 75 [.lst false 0 (ints r)] = some (.int .i64 (rowF r), []) := by
  refine fun_s rfl cd75 rfl rfl rfl (by simp; rfl) (by simp; rfl) ?_
  refine wa_ (wc_region (w_ (a_ (h := wo_nil (e_ (h := aft_normal (wa_ (wa_ (wc_region (w_ (m_ (h := w_ (le (h := w_ (b_ (h := wo_nil (e_ (h := ?_))))))))))))))))))
  refine aft_normal (?_)
  refine c_ (h1 := ?_) (h2 := ?_)
  rotate_right 1
  focus
   intro c1
   first
   | exact dn c1
   | (have d1 := c1; try simp at d1
      refine wc_skip (?_)
      )
  rotate_right 1
  focus
   intro c1
   first
   | exact dn c1
   | (have d1 := c1; try simp at d1
      refine wa_ (wc_region (w_ (a_ (h := wo_nil (e_ (h := aft_normal (wc_ret (?_))))))))
      )
  all_goals first
  | refine aft_ret ?_
  | (refine aft_normal ?_
     refine wa_ (wa_ (wc_region (w_ (m_ (h := w_ (le (h := w_ (m_ (h := wo_nil (e_ (h := aft_normal (wc_block (?_)))))))))))))
     refine wc_loopI (l_rowI r (by omega) 0 (by omega) _ (by simp [normE])) ?_ ?_
     rotate_right 1
     focus
      intro c2
      first
      | exact dn c2
      | (have d2 := c2; try simp at d2
         skip
         )
     rotate_right 1
     focus
      intro c2
      first
      | exact dn c2
      | (have d2 := c2; try simp at d2
         skip
         )
     all_goals first | refine blk_ret ?_ | refine blk_exit ?_
     all_goals first
     | refine aft_ret ?_
     | (refine aft_normal ?_
        refine wa_ (wc_region (w_ (a_ (h := wo_nil (e_ (h := aft_normal (wc_ret (?_))))))))
        )
     )
  all_goals (refine fin_ (hr := (res_tmp rfl res_nil)) (h := ?_); (focus (simp [rowF]; grind)))
theorem l_rowS (r : List Int) (hr : r.length ≤ 4) : ∀ i : Nat, (i ≤ r.length) → ∀ s, normE 1 (some [0, 3]) s = ⟨[(0, .lst false 0 (ints r)), (3, .int .i64 i)], [], 1⟩ →
    oc.loop 72 4 s = some (if (r.drop i).all (fun c => inI c (-1000000000) 1000000000) = true then (.exit 0, ⟨[], [], 1⟩) else (.ret, ⟨[(2, .int .i64 3)], [], 1⟩)) := by
  refine loop_ind (σ := Nat) (fun i => r.length - i) _ (fun i => ⟨[(0, .lst false 0 (ints r)), (3, .int .i64 i)], [], 1⟩) _ ?_
  intro i hi ih s hs
  refine loop_s cd72 rfl rfl hs ?_
  refine wa_ (wa_ (wc_region (w_ (m_ (h := w_ (m_ (h := w_ (le (h := w_ (b_ (h := wo_nil (e_ (h := aft_normal (?_))))))))))))))
  refine c_ (h1 := ?_) (h2 := ?_)
  rotate_right 1
  focus
   intro c1
   first
   | exact dn c1
   | (have d1 := c1; try simp at d1
      refine wc_exit (?_)
      )
  rotate_right 1
  focus
   intro c1
   first
   | exact dn c1
   | (have d1 := c1; try simp at d1
      have hw := wrap_succ (i := i) (by omega); obtain ⟨x, hx, e1, g1⟩ := ints_cut (l := r) (i := i) (by omega)
      refine wc_skip (?_)
      )
  all_goals first
  | refine aft_exit ?_
  | (refine aft_normal ?_
     refine wa_ (wc_block (wa_ (wc_region (w_ (m_ (h := w_ (m_ (h := w_ (x_ (h := w_ (l_ (h := w_ (ca (hc := e_l1In _ _ _) (h := w_ (u_ (h := wo_nil (e_ (h := aft_normal (?_)))))))))))))))))))
     refine c_ (h1 := ?_) (h2 := ?_)
     rotate_right 1
     focus
      intro c2
      first
      | exact dn c2
      | (have d2 := c2; try simp at d2
         refine wc_skip (?_)
         )
     rotate_right 1
     focus
      intro c2
      first
      | exact dn c2
      | (have d2 := c2; try simp at d2
         refine wa_ (wc_region (w_ (a_ (h := wo_nil (e_ (h := aft_normal (wc_ret (?_))))))))
         )
     all_goals first | refine blk_normal ?_ | refine blk_ret ?_
     all_goals first
     | refine aft_ret ?_
     | (refine aft_normal ?_
        refine wc_region (w_ (m_ (h := w_ (b_ (h := w_ (a_ (h := wo_nil (e_ (h := ?_)))))))))
        )
     )
  all_goals first
  | (refine (ih (i + 1) (by omega) ?_ _ ?_).trans ?_; (focus (first | omega | (simp; done) | (simp; omega))); (focus (simp [normE, hw]; done)); (focus (rw [e1]; simp [d2])))
  | (apply end_leaf (ex := Ext.ret) 1 (some [2]); (focus (simp [normE]; rfl)); (focus (rw [e1]; simp [d2])))
  | (apply end_leaf (ex := (Ext.exit 0)) 1 (some [2]); (focus (simp [normE]; rfl)); (focus (rw [List.drop_eq_nil_of_le (by omega)]; simp)))
theorem e_rowS (r : List Int) (h : r.length < 2000000) : oc.call 72 [.lst false 0 (ints r)] = some (.int .i64 (rowF r), []) := by
  refine fun_s rfl cd72 rfl rfl rfl (by simp; rfl) (by simp; rfl) ?_
  refine wa_ (wc_region (w_ (a_ (h := wo_nil (e_ (h := aft_normal (wa_ (wa_ (wc_region (w_ (m_ (h := w_ (le (h := w_ (b_ (h := wo_nil (e_ (h := ?_))))))))))))))))))
  refine aft_normal (?_)
  refine c_ (h1 := ?_) (h2 := ?_)
  rotate_right 1
  focus
   intro c1
   first
   | exact dn c1
   | (have d1 := c1; try simp at d1
      refine wc_skip (?_)
      )
  rotate_right 1
  focus
   intro c1
   first
   | exact dn c1
   | (have d1 := c1; try simp at d1
      refine wa_ (wc_region (w_ (a_ (h := wo_nil (e_ (h := aft_normal (wc_ret (?_))))))))
      )
  all_goals first
  | refine aft_ret ?_
  | (refine aft_normal ?_
     refine wa_ (wa_ (wc_region (w_ (a_ (h := wo_nil (e_ (h := aft_normal (wc_block (?_)))))))))
     refine wc_loopI (l_rowS r (by omega) 0 (by omega) _ (by simp [normE])) ?_ ?_
     rotate_right 1
     focus
      intro c2
      first
      | exact dn c2
      | (have d2 := c2; try simp at d2
         skip
         )
     rotate_right 1
     focus
      intro c2
      first
      | exact dn c2
      | (have d2 := c2; try simp at d2
         skip
         )
     all_goals first | refine blk_ret ?_ | refine blk_exit ?_
     all_goals first
     | refine aft_ret ?_
     | (refine aft_normal ?_
        refine wa_ (wc_region (w_ (a_ (h := wo_nil (e_ (h := aft_normal (wc_ret (?_))))))))
        )
     )
  all_goals (refine fin_ (hr := (res_tmp rfl res_nil)) (h := ?_); (focus (simp [rowF]; grind)))
theorem rowF_zero {r : List Int} (h : rowF r = 0) : r.length ≤ 4 ∧ ∀ c ∈ r, -1000000000 ≤ c ∧ c ≤ 1000000000 := by
  unfold rowF at h
  split at h
  · cases h
  · split at h
    · rename_i h1 h2
      refine ⟨by omega, fun c hc => ?_⟩
      have := List.all_eq_true.1 h2 c hc
      simp [inI] at this; exact this
    · cases h
def hashC (h c : Int) : Int := (IntKind.i64.wrap (IntKind.i64.wrap (h * 131) + (IntKind.i64.wrap (c.tmod 1000003 + 1000003)).tmod 1000003)).tmod 1000003
def hashN (r : List Int) : Int := r.foldl hashC 17
theorem l_hashI (r : List Int) (hr : r.length < 2000000) : ∀ x : Nat × Int, (x.1 ≤ r.length) → ∀ s, normE 1 (some [3, 6, 7, 8]) s = ⟨[(3, .int .i64 x.2), (6, .lst false 0 (ints r)), (7, .int .i64 r.length), (8, .int .i64 x.1)], [], 1⟩ →
    oc.loop 135 3 s = some (.exit 0, ⟨[(3, .int .i64 ((r.drop x.1).foldl hashC x.2))], [], 1⟩) := by
  refine loop_ind (σ := Nat × Int) (fun x => r.length - x.1) _ (fun x => ⟨[(3, .int .i64 x.2), (6, .lst false 0 (ints r)), (7, .int .i64 r.length), (8, .int .i64 x.1)], [], 1⟩) _ ?_
  rintro ⟨i, h⟩ hi ih s hs
  simp only at hi
  refine loop_s cd135 rfl rfl hs ?_
  refine wa_ (wc_region (w_ (b_ (h := wo_nil (e_ (h := aft_normal (wa_ (?_))))))))
  refine c_ (h1 := ?_) (h2 := ?_)
  rotate_right 1
  focus
   intro c1
   first
   | exact dn c1
   | (have d1 := c1; try simp at d1
      refine wc_exit (?_)
      )
  rotate_right 1
  focus
   intro c1
   first
   | exact dn c1
   | (have d1 := c1; try simp at d1
      have hw := wrap_succ (i := i) (by omega); obtain ⟨x, hx, e1, g1⟩ := ints_cut (l := r) (i := i) (by omega)
      refine wc_skip (?_)
      )
  all_goals first
  | refine aft_exit ?_
  | (refine aft_normal ?_
     refine wa_ (wc_block (wa_ (wc_region (w_ (x_ (h := w_ (l_ (h := w_ (a_ (h := wo_nil (e_ (h := aft_normal (wc_region (w_ (m_ (h := w_ (b_ (h := ?_))))))))))))))))))
     refine w_ (m_ (h := w_ (b_ (h := w_ (b_ (h := w_ (b_ (h := w_ (b_ (h := w_ (b_ (h := w_ (a_ (h := wo_nil (e_ (h := blk_normal (aft_normal (wc_region (w_ (b_ (h := ?_)))))))))))))))))))))
     refine w_ (m_ (h := wo_nil (e_ (h := ?_))))
     )
  all_goals first
  | (refine (ih ((i + 1, hashC h x)) (by simp; omega) ?_ _ ?_).trans ?_; (focus (first | omega | (simp; done) | (simp; omega))); (focus (simp [normE, hw, hashC]; done)); (focus (simp only [e1, List.foldl_cons])))
  | (apply end_leaf (ex := (Ext.exit 0)) 1 (some [3]); (focus (simp [normE]; rfl)); (focus (simp only [List.drop_eq_nil_of_le (show r.length ≤ i by omega), List.foldl_nil])))
theorem e_hashI (r : List Int) (h : r.length < 2000000) : oc.call 135 [.lst false 0 (ints r)] = some (.int .i64 (hashN r), []) := by
  refine fun_s rfl cd135 rfl rfl rfl (by simp; rfl) (by simp; rfl) ?_
  refine wa_ (wc_region (w_ (a_ (h := wo_nil (e_ (h := aft_normal (wa_ (wc_region (w_ (a_ (h := wo_nil (e_ (h := aft_normal (wa_ (wa_ (?_))))))))))))))))
  refine wc_region (w_ (m_ (h := w_ (le (h := w_ (m_ (h := wo_nil (e_ (h := aft_normal (wc_block (?_)))))))))))
  refine wc_loop (l_hashI r h (0, 17) (by simp) _ (by simp [normE])) ?_
  refine blk_exit (aft_normal (wa_ (wc_region (w_ (m_ (h := w_ (a_ (h := wo_nil (e_ (h := aft_normal (wc_ret (?_))))))))))))
  all_goals (refine fin_ (hr := (res_tmp rfl res_nil)) (h := ?_); (focus (simp [hashN])))
theorem l_hashS (r : List Int) (hr : r.length < 2000000) : ∀ x : Nat × Int, (x.1 ≤ r.length) → ∀ s, normE 1 (some [0, 3, 4]) s = ⟨[(0, .lst false 0 (ints r)), (3, .int .i64 x.2), (4, .int .i64 x.1)], [], 1⟩ →
    oc.loop 134 3 s = some (.exit 0, ⟨[(3, .int .i64 ((r.drop x.1).foldl hashC x.2))], [], 1⟩) := by
  refine loop_ind (σ := Nat × Int) (fun x => r.length - x.1) _ (fun x => ⟨[(0, .lst false 0 (ints r)), (3, .int .i64 x.2), (4, .int .i64 x.1)], [], 1⟩) _ ?_
  rintro ⟨i, h⟩ hi ih s hs
  simp only at hi
  refine loop_s cd134 rfl rfl hs ?_
  refine wa_ (wa_ (wc_region (w_ (m_ (h := w_ (m_ (h := w_ (le (h := w_ (b_ (h := wo_nil (e_ (h := aft_normal (?_))))))))))))))
  refine c_ (h1 := ?_) (h2 := ?_)
  rotate_right 1
  focus
   intro c1
   first
   | exact dn c1
   | (have d1 := c1; try simp at d1
      refine wc_exit (?_)
      )
  rotate_right 1
  focus
   intro c1
   first
   | exact dn c1
   | (have d1 := c1; try simp at d1
      have hw := wrap_succ (i := i) (by omega); obtain ⟨x, hx, e1, g1⟩ := ints_cut (l := r) (i := i) (by omega)
      refine wc_skip (?_)
      )
  all_goals first
  | refine aft_exit ?_
  | (refine aft_normal ?_
     refine wa_ (wc_block (wa_ (wc_region (w_ (m_ (h := w_ (m_ (h := w_ (x_ (h := w_ (l_ (h := w_ (b_ (h := w_ (b_ (h := w_ (b_ (h := w_ (a_ (h := ?_))))))))))))))))))))
     refine wo_nil (e_ (h := aft_normal (wc_region (w_ (m_ (h := w_ (b_ (h := w_ (m_ (h := w_ (b_ (h := w_ (b_ (h := w_ (a_ (h := wo_nil (e_ (h := blk_normal (aft_normal (?_))))))))))))))))))))
     refine wc_region (w_ (m_ (h := w_ (b_ (h := w_ (a_ (h := wo_nil (e_ (h := ?_)))))))))
     )
  all_goals first
  | (refine (ih ((i + 1, hashC h x)) (by simp; omega) ?_ _ ?_).trans ?_; (focus (first | omega | (simp; done) | (simp; omega))); (focus (simp [normE, hw, hashC]; done)); (focus (simp only [e1, List.foldl_cons])))
  | (apply end_leaf (ex := (Ext.exit 0)) 1 (some [3]); (focus (simp [normE]; rfl)); (focus (simp only [List.drop_eq_nil_of_le (show r.length ≤ i by omega), List.foldl_nil])))
theorem e_hashS (r : List Int) (h : r.length < 2000000) : oc.call 134 [.lst false 0 (ints r)] = some (.int .i64 (hashN r), []) := by
  refine fun_s rfl cd134 rfl rfl rfl (by simp; rfl) (by simp; rfl) ?_
  refine wa_ (wc_region (w_ (a_ (h := wo_nil (e_ (h := aft_normal (wa_ (wc_region (w_ (a_ (h := wo_nil (e_ (h := aft_normal (wa_ (wa_ (?_))))))))))))))))
  refine wc_region (w_ (a_ (h := wo_nil (e_ (h := aft_normal (wc_block (?_)))))))
  refine wc_loop (l_hashS r h (0, 17) (by simp) _ (by simp [normE])) ?_
  refine blk_exit (aft_normal (wa_ (wc_region (w_ (m_ (h := w_ (a_ (h := wo_nil (e_ (h := aft_normal (wc_ret (?_))))))))))))
  all_goals (refine fin_ (hr := (res_tmp rfl res_nil)) (h := ?_); (focus (simp [hashN])))
theorem hashC_in {h c : Int} (h0 : 0 ≤ h) (h1 : h < 1000003) : 0 ≤ hashC h c ∧ hashC h c < 1000003 := by
  unfold hashC
  have a1 : -1000003 < c.tmod 1000003 ∧ c.tmod 1000003 < 1000003 := ⟨by have := Int.lt_tmod_of_pos c (b := 1000003) (by decide); omega, Int.tmod_lt_of_pos c (by decide)⟩
  rw [wrap_id (a := c.tmod 1000003 + 1000003) (by omega) (by omega), wrap_id (a := h * 131) (by omega) (by omega)]
  generalize hq : (c.tmod 1000003 + 1000003).tmod 1000003 = q
  have a2 : 0 ≤ q ∧ q < 1000003 := by rw [← hq]; exact ⟨Int.tmod_nonneg _ (by omega), Int.tmod_lt_of_pos _ (by decide)⟩
  rw [wrap_id (by omega) (by omega)]
  exact ⟨Int.tmod_nonneg _ (by omega), Int.tmod_lt_of_pos _ (by decide)⟩
theorem hashN_in (r : List Int) : 0 ≤ hashN r ∧ hashN r < 1000003 := by
  have : ∀ (r : List Int) (h : Int), 0 ≤ h → h < 1000003 → 0 ≤ r.foldl hashC h ∧ r.foldl hashC h < 1000003 := by
    intro r
    induction r with
    | nil => intro h h0 h1; exact ⟨h0, h1⟩
    | cons c r ih => intro h h0 h1; exact ih _ (hashC_in h0 h1).1 (hashC_in h0 h1).2
  exact this r 17 (by decide) (by decide)
def shardN (m : Int) (r : List Int) (k : Int) : Int := (hashN (r.take k.toNat)).tmod m
theorem shardN_in {m : Int} {r : List Int} {k : Int} (hm : 0 < m) : 0 ≤ shardN m r k ∧ shardN m r k < m := by
  have := hashN_in (r.take k.toNat)
  exact ⟨Int.tmod_nonneg _ this.1, Int.tmod_lt_of_pos _ hm⟩
theorem e_shardI (m k : Int) (r : List Int) (h : r.length < 2000000) (hm : m ≠ 0) (h0 : 0 ≤ k) (h1 : k ≤ r.length) : oc.call 77 [.int .i64 m, .lst false 0 (ints r), .int .i64 k] = some (.int .i64 (shardN m r k), []) := by
  refine fun_s rfl cd77 rfl rfl rfl (by simp; rfl) (by simp; rfl) ?_
  refine wa_ (wc_region (w_ (a_ (h := wo_nil (e_ (h := aft_normal (wa_ (wc_region (w_ (m_ (h := w_ (m_ (h := w_ (sl (h := w_ (ca (hc := e_hashI _ (by simp; omega)) (h := w_ (m_ (h := ?_)))))))))))))))))))
  refine w_ (b_ (h := w_ (a_ (h := wo_nil (e_ (h := aft_normal (wc_ret (?_))))))))
  all_goals (refine fin_ (hr := (res_tmp rfl res_nil)) (h := ?_); (focus (simp [shardN])))
theorem e_shardS (m k : Int) (r : List Int) (h : r.length < 2000000) (hm : m ≠ 0) (h0 : 0 ≤ k) (h1 : k ≤ r.length) : oc.call 73 [.int .i64 m, .lst false 0 (ints r), .int .i64 k] = some (.int .i64 (shardN m r k), []) := by
  refine fun_s rfl cd73 rfl rfl rfl (by simp; rfl) (by simp; rfl) ?_
  refine wa_ (wc_region (w_ (a_ (h := wo_nil (e_ (h := aft_normal (wa_ (wc_region (w_ (m_ (h := w_ (m_ (h := w_ (sl (h := w_ (ca (hc := e_hashS _ (by simp; omega)) (h := w_ (m_ (h := ?_)))))))))))))))))))
  refine w_ (b_ (h := w_ (a_ (h := wo_nil (e_ (h := aft_normal (wc_ret (?_))))))))
  all_goals (refine fin_ (hr := (res_tmp rfl res_nil)) (h := ?_); (focus (simp [shardN])))
def widN (pl : List Nd) : List Int := (lookN pl).1
theorem lookR_good {pl : List Nd} (hk : okN pl) (hp : pl.length < 2000000) : ∀ (r : List Nd) (ws : List Int), r = pl.drop ws.length → Good pl ws → (∀ k : Nat, k < ws.length → 1 ≤ at0 ws k ∧ at0 ws k ≤ 4) → (lookR pl r ws).2 = 0 → Good pl (lookR pl r ws).1 ∧ (lookR pl r ws).1.length = max pl.length ws.length ∧ ∀ k : Nat, k < (lookR pl r ws).1.length → 1 ≤ at0 (lookR pl r ws).1 k ∧ at0 (lookR pl r ws).1 k ≤ 4
  | [], ws, e, G, hb, _ => by
    have : pl.length ≤ ws.length := by
      have := congrArg List.length e; simp at this; omega
    unfold lookR
    exact ⟨G, by simp; omega, hb⟩
  | d :: r, ws, e, G, hb, h => by
    unfold lookR at h ⊢
    have hx : pl[ws.length]? = some d := by
      have := congrArg (fun l => l[0]?) e
      simpa using this.symm
    have hlt := (List.getElem?_eq_some_iff.mp hx).1
    have hr : r = pl.drop (ws.length + 1) := by
      have := congrArg List.tail e
      simpa [List.tail_drop] using this
    split at h
    · rename_i hs
      rw [if_pos hs]
      have hf := step_ok (by omega) hs
      have hw : 1 ≤ widthN d ws ∧ widthN d ws ≤ 4 := by
        obtain ⟨f1, f2⟩ := hf
        have ha : d.op ≠ 1 → 1 ≤ at0 ws d.a ∧ at0 ws d.a ≤ 4 := fun ho => by
          have := f1 ho
          have := hb d.a.toNat (by omega)
          rwa [Int.toNat_of_nonneg (by omega)] at this
        have hb2 : d.op = 4 ∨ d.op = 6 → 1 ≤ at0 ws d.b ∧ at0 ws d.b ≤ 4 := fun ho => by
          have := f2 ho
          have := hb d.b.toNat (by omega)
          rwa [Int.toNat_of_nonneg (by omega)] at this
        have h0 : faultN d ws = 0 := by
          unfold stepC at hs
          split at hs
          · cases hs
          · split at hs
            · cases hs
            · split at hs
              · cases hs
              · exact hs
        unfold faultN at h0
        unfold widthN
        by_cases o1 : d.op = 1
        · rw [if_pos o1] at h0 ⊢
          simp [inI] at h0; omega
        · rw [if_neg o1] at h0 ⊢
          have ha := ha o1
          by_cases o2 : d.op = 2
          · rw [if_neg (by omega), if_neg (by omega), if_neg (by simp [inI]; omega)]; exact ha
          · rw [if_neg o2] at h0
            by_cases o3 : d.op = 3
            · rw [if_pos o3] at h0 ⊢
              have : inI d.cells.length 1 4 = true := by
                cases hi : inI d.cells.length 1 4 with
                | true => rfl
                | false => rw [hi] at h0; simp at h0
              simp [inI] at this; omega
            · rw [if_neg o3] at h0 ⊢
              by_cases o4 : d.op = 4
              · rw [if_neg (by omega), if_neg (by simp [inI]; omega)]; exact ha
              · rw [if_neg o4] at h0
                by_cases o6 : d.op = 6
                · have hb2 := hb2 (.inr o6)
                  rw [if_pos o6] at h0 ⊢
                  have w1 : IntKind.i64.wrap (at0 ws d.a + at0 ws d.b) = at0 ws d.a + at0 ws d.b := wrap_id (by omega) (by omega)
                  have hi : inI d.col 1 (min (at0 ws d.a) (at0 ws d.b)) = true := by
                    cases hi : inI d.col 1 (min (at0 ws d.a) (at0 ws d.b)) with
                    | true => rfl
                    | false => rw [hi] at h0; simp at h0
                  rw [hi, if_pos rfl] at h0
                  have hle : ¬ 4 < widthN d ws := fun hc => by rw [if_pos hc] at h0; cases h0
                  unfold widthN at hle
                  rw [if_neg o1, if_neg o3, if_pos o6] at hle
                  simp only [inI, Bool.and_eq_true, decide_eq_true_eq] at hi
                  have w2 : IntKind.i64.wrap (at0 ws d.a + at0 ws d.b - d.col) = at0 ws d.a + at0 ws d.b - d.col := wrap_id (by omega) (by omega)
                  rw [w1, w2] at hle ⊢
                  omega
                · rw [if_neg o6] at h0 ⊢
                  by_cases o7 : d.op = 7
                  · rw [if_pos o7] at h0
                    have hi : inI d.col 0 (min (at0 ws d.a) 3) = true := by
                      cases hi : inI d.col 0 (min (at0 ws d.a) 3) with
                      | true => rfl
                      | false => rw [hi] at h0; simp at h0
                    simp only [inI, Bool.and_eq_true, decide_eq_true_eq] at hi
                    rw [if_pos (by simp [inI]; omega), wrap_id (by omega) (by omega)]; omega
                  · rw [if_neg o7] at h0
                    by_cases o8 : 8 ≤ d.op ∧ d.op ≤ 10
                    · rw [if_pos o8] at h0
                      have hi : inI d.col 0 (IntKind.i64.wrap (at0 ws d.a - 1)) = true := by
                        cases hi : inI d.col 0 (IntKind.i64.wrap (at0 ws d.a - 1)) with
                        | true => rfl
                        | false => rw [hi] at h0; simp at h0
                      rw [wrap_id (by omega) (by omega)] at hi
                      simp only [inI, Bool.and_eq_true, decide_eq_true_eq] at hi
                      rw [if_pos (by simp [inI]; omega), wrap_id (by omega) (by omega)]; omega
                    · rw [if_neg (by simp [inI]; omega)]; exact ha
      have key := lookR_good hk hp r (ws ++ [widthN d ws]) (by simpa using hr) (good_snoc hk (by omega) G hx hs) (by
        intro k hk2
        by_cases hc : k < ws.length
        · have := hb k hc
          simp only [at0, List.getD_eq_getElem?_getD, List.getElem?_append_left (show (k : Int).toNat < ws.length by omega)] at this ⊢
          exact this
        · have : k = ws.length := by simp at hk2; omega
          subst this
          simpa [at0, List.getD_eq_getElem?_getD] using hw) h
      refine ⟨key.1, ?_, key.2.2⟩
      rw [key.2.1]; simp; omega
    · exact absurd h ‹_›
theorem look_good {pl : List Nd} (hk : okN pl) (h : (lookN pl).2 = 0) : Good pl (widN pl) ∧ (widN pl).length = pl.length ∧ (∀ k : Nat, k < pl.length → 1 ≤ at0 (widN pl) k ∧ at0 (widN pl) k ≤ 4) ∧ 1 ≤ pl.length ∧ pl.length ≤ 8 := by
  unfold widN
  unfold lookN at h ⊢
  split at h
  · cases h
  · rename_i hl
    rw [if_neg hl]
    simp [inI] at hl
    split at h
    · rename_i h0
      rw [if_pos h0]
      have := lookR_good hk (by omega) pl [] rfl (good_nil pl) (fun k hk => by simp at hk) h0
      have hlen : (lookR pl pl []).1.length = pl.length := by rw [this.2.1]; simp
      exact ⟨this.1, hlen, fun k hk2 => this.2.2 k (by omega), by omega, by omega⟩
    · exact absurd h ‹_›
end Go.Proofs.Ytmednhpmcplplaa.Ev
namespace Go.Proofs.Ytmednhpmcplplaa.Ev
open Go
set_option maxRecDepth 100000
set_option linter.unusedSimpArgs false
set_option linter.unusedVariables false
set_option maxHeartbeats 2000000
theorem wid_at {pl : List Nd} (hk : okN pl) (h : (lookN pl).2 = 0) {a : Int} (h0 : 0 ≤ a) (h1 : a < pl.length) : 1 ≤ at0 (widN pl) a ∧ at0 (widN pl) a ≤ 4 := by
  have := (look_good hk h).2.2.1 a.toNat (by omega)
  rwa [Int.toNat_of_nonneg h0] at this
theorem nd_at {pl : List Nd} {a : Int} (h0 : 0 ≤ a) (h1 : a < pl.length) : ∃ d, pl[a.toNat]? = some d ∧ (nds false 0 pl)[a.toNat]? = some (d.v false 0) := by
  have : a.toNat < pl.length := by omega
  exact ⟨pl[a.toNat], by simp [this], by simp [nds, this]⟩
def ndAt (pl : List Nd) (a : Int) : Nd := (pl[a.toNat]?).getD ⟨0, 0, 0, 0, 0, 0, []⟩
theorem ndAt_of {pl : List Nd} {a : Int} {d : Nd} (h : pl[a.toNat]? = some d) : ndAt pl a = d := by simp [ndAt, h]
def nodeC (pl : List Nd) (a : Int) : Int := if (lookN pl).2 = 0 then (if inI a 0 ((pl.length : Int) - 1) = true then 0 else 3) else (lookN pl).2
theorem nodeC_zero {pl : List Nd} {a : Int} (h : nodeC pl a = 0) : (lookN pl).2 = 0 ∧ 0 ≤ a ∧ a < pl.length := by
  unfold nodeC at h; split at h
  · split at h
    · rename_i h1 h2; simp [inI] at h2; exact ⟨h1, by omega, by omega⟩
    · cases h
  · exact absurd h ‹_›
theorem e_nodeC (pl : List Nd) (a : Int) (hp : pl.length < 2000000) (hk : okN pl) : oc.call 164 [.lst false 0 (nds false 0 pl), .int .i64 a] = some (.tup [.lst true 1 (ints (widN pl)), .int .i64 (nodeC pl a)], []) := by
  refine fun_s rfl cd164 rfl rfl rfl (by simp; rfl) (by simp; rfl) ?_
  have hw : IntKind.i64.wrap ((pl.length : Int) - 1) = pl.length - 1 := wrap_id (by omega) (by omega)
  refine wa_ (wc_region (w_ (aN (h := w_ (a_ (h := wo_nil (e_ (h := aft_normal (wa_ (wc_region (w_ (m_ (h := w_ (ca (hc := e_looked pl hp hk) (h := w_ (m_ (h := w_ (ex (h := ?_)))))))))))))))))))
  refine w_ (ex (h := w_ (a_ (h := w_ (a_ (h := wo_nil (e_ (h := aft_normal (wa_ (wa_ (wc_region (w_ (m_ (h := w_ (bE (h := w_ (m_ (h := ?_))))))))))))))))))
  refine gw_ (h1 := ?_) (h2 := ?_)
  rotate_right 1
  focus
   intro c1
   first
   | exact dn c1
   | (have d1 := c1; try simp at d1
      refine go_ (h := go_ (h := go_ (h := go_ (h := go_ (h := go_ (h := ?_))))))
      )
  rotate_right 1
  focus
   intro c1
   first
   | exact dn c1
   | (have d1 := c1; try simp at d1
      refine g_ (h := w_ (m_ (h := g_ (h := w_ (m_ (h := g_ (h := w_ (ca (hc := e_sizeN _ _ (by simp; omega)) (h := g_ (h := w_ (b_ (h := g_ (h := w_ (ca (hc := e_in _ _ _) (h := g_ (h := w_ (u_ (h := ?_))))))))))))))))))
      )
  all_goals
   refine w_ (pk (h := wo_nil (e_ (h := ?_))))
  all_goals first
  | (refine aft_normal ?_
     refine c_ (h1 := ?_) (h2 := ?_)
     rotate_right 1
     focus
      intro c2
      first
      | exact dn c2
      | (have d2 := c2; try simp at d2
         refine wc_skip (?_)
         )
     rotate_right 1
     focus
      intro c2
      first
      | exact dn c2
      | (have d2 := c2; try simp at d2
         refine wc_region (w_ (a_ (h := wo_nil (e_ (h := ?_)))))
         )
     )
  all_goals first
  | (refine aft_normal ?_
     refine wa_ (wc_region (w_ (m_ (h := w_ (m_ (h := w_ (a_ (h := w_ (a_ (h := wo_nil (e_ (h := aft_normal (wc_ret (?_))))))))))))))
     )
  all_goals (refine fin_ (hr := (res_tmp rfl (res_tmp rfl res_nil))) (h := ?_); (focus (clear hk; simp [widN, nodeC, hw] at * <;> grind)))
theorem e_l3Asked (pl : List Nd) (a : Int) (hp : pl.length < 2000000) (hk : okN pl) : oc.call 162 [.lst false 0 (nds false 0 pl), .int .i64 a] = some (.int .i64 (nodeC pl a), []) := by
  refine fun_s rfl cd162 rfl rfl rfl (by simp; rfl) (by simp; rfl) ?_
  have hw : IntKind.i64.wrap ((pl.length : Int) - 1) = pl.length - 1 := wrap_id (by omega) (by omega)
  refine wa_ (wc_region (w_ (a_ (h := wo_nil (e_ (h := aft_normal (wa_ (wa_ (wc_region (w_ (m_ (h := w_ (ca (hc := e_planS pl hp hk) (h := w_ (a_ (h := wo_nil (e_ (h := ?_))))))))))))))))))
  refine aft_normal (wa_ (wc_region (w_ (m_ (h := w_ (bE (h := wo_nil (e_ (h := aft_normal (?_))))))))))
  refine c_ (h1 := ?_) (h2 := ?_)
  rotate_right 1
  focus
   intro c1
   first
   | exact dn c1
   | (have d1 := c1; try simp at d1
      refine wc_skip (?_)
      )
  rotate_right 1
  focus
   intro c1
   first
   | exact dn c1
   | (have d1 := c1; try simp at d1
      refine wa_ (wc_region (w_ (m_ (h := w_ (a_ (h := wo_nil (e_ (h := aft_normal (wc_ret (?_))))))))))
      )
  all_goals first
  | refine aft_ret ?_
  | (refine aft_normal ?_
     refine wa_ (wa_ (wc_region (w_ (m_ (h := w_ (m_ (h := w_ (le (h := w_ (b_ (h := w_ (ca (hc := e_l1In _ _ _) (h := w_ (u_ (h := wo_nil (e_ (h := aft_normal (?_))))))))))))))))))
     refine c_ (h1 := ?_) (h2 := ?_)
     rotate_right 1
     focus
      intro c2
      first
      | exact dn c2
      | (have d2 := c2; try simp at d2
         refine wc_skip (?_)
         )
     rotate_right 1
     focus
      intro c2
      first
      | exact dn c2
      | (have d2 := c2; try simp at d2
         refine wa_ (wc_region (w_ (a_ (h := wo_nil (e_ (h := aft_normal (wc_ret (?_))))))))
         )
     all_goals first
     | refine aft_ret ?_
     | (refine aft_normal ?_
        refine wa_ (wc_region (w_ (a_ (h := wo_nil (e_ (h := aft_normal (wc_ret (?_))))))))
        )
     )
  all_goals (refine fin_ (hr := (res_tmp rfl res_nil)) (h := ?_); (focus (clear hk; simp [nodeC, hw] at * <;> grind)))
def keyN (pl : List Nd) (a : Int) : Int := if (ndAt pl a).op = 1 ∨ 6 ≤ (ndAt pl a).op ∧ (ndAt pl a).op ≤ 10 then (ndAt pl a).col else at0 (widN pl) (ndAt pl a).a
theorem in_at {pl : List Nd} (hk : okN pl) (h : (lookN pl).2 = 0) {a : Int} {d : Nd} (h0 : 0 ≤ a) (hd : pl[a.toNat]? = some d) : (1 ≤ d.op ∧ d.op ≤ 12) ∧ (d.op ≠ 1 → 0 ≤ d.a ∧ d.a < a) ∧ (d.op = 4 ∨ d.op = 6 → 0 ≤ d.b ∧ d.b < a) := by
  have hw := look_wf h a.toNat d hd
  have : ∀ (r : List Nd) (ws : List Int), r = pl.drop ws.length → (lookR pl r ws).2 = 0 → ∀ (n : Nat) d, ws.length ≤ n → pl[n]? = some d → 1 ≤ d.op ∧ d.op ≤ 12 := by
    intro r
    induction r with
    | nil =>
      intro ws e _ n d hn hd
      have : pl.length ≤ ws.length := by have := congrArg List.length e; simp at this; omega
      have := (List.getElem?_eq_some_iff.mp hd).1
      omega
    | cons x r ih =>
      intro ws e h n d hn hd
      unfold lookR at h
      have hx : pl[ws.length]? = some x := by
        have := congrArg (fun l => l[0]?) e
        simpa using this.symm
      have hr : r = pl.drop (ws.length + 1) := by
        have := congrArg List.tail e
        simpa [List.tail_drop] using this
      split at h
      · rename_i hs
        by_cases hc : n = ws.length
        · subst hc
          rw [hx] at hd
          cases hd
          unfold stepC at hs
          split at hs
          · cases hs
          · rename_i h1
            simp [inI] at h1; omega
        · exact ih (ws ++ [widthN x ws]) (by simpa using hr) h n d (by simp; omega) hd
      · exact absurd h ‹_›
  have h2 : (lookR pl pl []).2 = 0 := by
    unfold lookN at h
    split at h
    · cases h
    · split at h
      · exact ‹_›
      · exact absurd h ‹_›
  have h3 := this pl [] rfl h2 a.toNat d (by simp) hd
  obtain ⟨f1, f2⟩ := hw
  exact ⟨h3, fun ho => by have := f1 ho; omega, fun ho => by have := f2 ho; omega⟩
theorem wid_in {pl : List Nd} (hk : okN pl) (h : (lookN pl).2 = 0) {a : Int} {d : Nd} (h0 : 0 ≤ a) (hd : pl[a.toNat]? = some d) (ho : d.op = 1) : at0 (widN pl) a = d.col := by
  have G := (look_good hk h).1
  have hl := (look_good hk h).2.1
  have hlt := (List.getElem?_eq_some_iff.mp hd).1
  obtain ⟨e, h1, h2, _⟩ := G a.toNat (by omega)
  rw [hd] at h1
  cases h1
  rw [Int.toNat_of_nonneg h0] at h2
  rw [h2, widthN, if_pos ho]
theorem e_keyI (pl : List Nd) (a : Int) (hp : pl.length < 2000000) (hk : okN pl) (hc : nodeC pl a = 0) : oc.call 111 [.lst false 0 (nds false 0 pl), .lst false 0 (ints (widN pl)), .int .i64 a] = some (.int .i64 (keyN pl a), []) := by
  refine fun_s rfl cd111 rfl rfl rfl (by simp; rfl) (by simp; rfl) ?_
  obtain ⟨k1, k2, k3⟩ := nodeC_zero hc
  obtain ⟨d, hd, g1⟩ := nd_at k2 k3
  obtain ⟨⟨o1, o2⟩, o3, o4⟩ := in_at hk k1 k2 hd
  have hlw := (look_good hk k1).2.1
  have g2 := ints_ix (w := widN pl) k2 (by omega)
  refine wa_ (wc_region (w_ (a_ (h := wo_nil (e_ (h := aft_normal (wa_ (wc_region (w_ (m_ (h := w_ (m_ (h := w_ (x_ (h := w_ (l_ (h := w_ (al (h := ?_)))))))))))))))))))
  refine w0 (s_ (h := wo_nil (e_ (h := aft_normal (wc_block (wa_ (wc_region (w_ (f_ (h := w_ (l_ (h := w_ (bE (h := w_ (m_ (h := ?_))))))))))))))))
  refine gw_ (h1 := ?_) (h2 := ?_)
  rotate_right 1
  focus
   intro c1
   first
   | exact dn c1
   | (have d1 := c1; try simp at d1
      refine go_ (h := go_ (h := go_ (h := ?_)))
      )
  rotate_right 1
  focus
   intro c1
   first
   | exact dn c1
   | (have d1 := c1; try simp at d1
      refine g_ (h := w_ (f_ (h := g_ (h := w_ (l_ (h := g_ (h := w_ (ca (hc := e_grouped _) (h := ?_)))))))))
      )
  all_goals
   refine w_ (pk (h := w_ (a_ (h := wo_nil (e_ (h := ?_))))))
  all_goals first
  | (refine aft_normal ?_
     refine c_ (h1 := ?_) (h2 := ?_)
     rotate_right 1
     focus
      intro c2
      first
      | exact dn c2
      | (have d2 := c2; try simp at d2
         refine wa_ (wc_region (w_ (f_ (h := w_ (l_ (h := w_ (bE (h := w_ (a_ (h := wo_nil (e_ (h := aft_normal (?_)))))))))))))
         refine c_ (h1 := ?_) (h2 := ?_)
         rotate_right 1
         focus
          intro c3
          first
          | exact dn c3
          | (have d3 := c3; try simp at d3
             have g3 := ints_ix (w := widN pl) (o3 (by omega)).1 (by have := o3 (by omega); omega)
             refine wa_ (wc_region (w_ (m_ (h := w_ (f_ (h := w_ (l_ (h := w_ (x_ (h := w_ (l_ (h := w_ (a_ (h := wo_nil (e_ (h := aft_normal (wc_ret (?_))))))))))))))))))
             )
         rotate_right 1
         focus
          intro c3
          first
          | exact dn c3
          | (have d3 := c3; try simp at d3
             refine wa_ (wc_region (w_ (m_ (h := w_ (m_ (h := w_ (x_ (h := w_ (l_ (h := w_ (a_ (h := wo_nil (e_ (h := aft_normal (wc_ret (?_))))))))))))))))
             )
         )
     rotate_right 1
     focus
      intro c2
      first
      | exact dn c2
      | (have d2 := c2; try simp at d2
         refine wa_ (wc_region (w_ (f_ (h := w_ (l_ (h := w_ (a_ (h := wo_nil (e_ (h := aft_normal (wc_ret (?_))))))))))))
         )
     )
  all_goals refine blk_ret ?_
  all_goals (refine fin_ (hr := (res_tmp rfl res_nil)) (h := ?_); (focus (have hwi := wid_in hk k1 k2 hd; clear hk; simp only [keyN, ndAt_of hd]; simp [inI] at * <;> grind)))
theorem wids_all {pl : List Nd} {ws : List Int} (hp : pl.length < 2000000) (G : Good pl ws) (a : Int) (h0 : 0 ≤ a) (h1 : a < ws.length) : oc.call 148 [.lst false 0 (nds false 0 pl), .int .i64 a] = some (.int .i64 (at0 ws a), []) := e_l3WidthI pl ws hp G a h0 h1
theorem e_keyS (pl : List Nd) (a : Int) (hp : pl.length < 2000000) (hk : okN pl) (hc : nodeC pl a = 0) : oc.call 108 [.lst false 0 (nds false 0 pl), .int .i64 a] = some (.int .i64 (keyN pl a), []) := by
  refine fun_s rfl cd108 rfl rfl rfl (by simp; rfl) (by simp; rfl) ?_
  obtain ⟨k1, k2, k3⟩ := nodeC_zero hc
  obtain ⟨d, hd, g1⟩ := nd_at k2 k3
  obtain ⟨⟨o1, o2⟩, o3, o4⟩ := in_at hk k1 k2 hd
  have hlw := (look_good hk k1).2.1
  refine wa_ (wc_region (w_ (a_ (h := wo_nil (e_ (h := aft_normal (wa_ (wc_region (w_ (m_ (h := w_ (m_ (h := w_ (x_ (h := w_ (l_ (h := w_ (al (h := ?_)))))))))))))))))))
  refine w0 (s_ (h := wo_nil (e_ (h := aft_normal (wa_ (wa_ (wc_region (w_ (f_ (h := w_ (l_ (h := wo_nil (e_ (h := aft_normal (wc_block (wa_ (?_)))))))))))))))))
  refine wa_ (wc_region (w_ (bE (h := w_ (a_ (h := wo_nil (e_ (h := aft_normal (?_)))))))))
  refine c_ (h1 := ?_) (h2 := ?_)
  rotate_right 1
  focus
   intro c1
   first
   | exact dn c1
   | (have d1 := c1; try simp at d1
      refine wa_ (wc_region (w_ (bE (h := w_ (a_ (h := wo_nil (e_ (h := aft_normal (?_)))))))))
      refine c_ (h1 := ?_) (h2 := ?_)
      rotate_right 1
      focus
       intro c2
       first
       | exact dn c2
       | (have d2 := c2; try simp at d2
          refine wa_ (wc_region (w_ (bE (h := w_ (a_ (h := wo_nil (e_ (h := aft_normal (?_)))))))))
          refine c_ (h1 := ?_) (h2 := ?_)
          rotate_right 1
          focus
           intro c3
           first
           | exact dn c3
           | (have d3 := c3; try simp at d3
              refine wa_ (wc_region (w_ (bE (h := w_ (a_ (h := wo_nil (e_ (h := aft_normal (?_)))))))))
              refine c_ (h1 := ?_) (h2 := ?_)
              rotate_right 1
              focus
               intro c4
               first
               | exact dn c4
               | (have d4 := c4; try simp at d4
                  refine wa_ (wc_region (w_ (bE (h := w_ (a_ (h := wo_nil (e_ (h := aft_normal (?_)))))))))
                  refine c_ (h1 := ?_) (h2 := ?_)
                  rotate_right 1
                  focus
                   intro c5
                   first
                   | exact dn c5
                   | (have d5 := c5; try simp at d5
                      refine wc_region (w_ (bE (h := w_ (a_ (h := wo_nil (e_ (h := ?_)))))))
                      )
                  rotate_right 1
                  focus
                   intro c5
                   first
                   | exact dn c5
                   | (have d5 := c5; try simp at d5
                      refine wc_skip (?_)
                      )
                  )
              rotate_right 1
              focus
               intro c4
               first
               | exact dn c4
               | (have d4 := c4; try simp at d4
                  refine wc_skip (?_)
                  )
              )
          rotate_right 1
          focus
           intro c3
           first
           | exact dn c3
           | (have d3 := c3; try simp at d3
              refine wc_skip (?_)
              )
          )
      rotate_right 1
      focus
       intro c2
       first
       | exact dn c2
       | (have d2 := c2; try simp at d2
          refine wc_skip (?_)
          )
      )
  rotate_right 1
  focus
   intro c1
   first
   | exact dn c1
   | (have d1 := c1; try simp at d1
      refine wc_skip (?_)
      )
  all_goals first
  | (refine aft_normal ?_
     refine c_ (h1 := ?_) (h2 := ?_)
     rotate_right 1
     focus
      intro c6
      first
      | exact dn c6
      | (have d6 := c6; try simp at d6
         refine wc_skip (?_)
         )
     rotate_right 1
     focus
      intro c6
      first
      | exact dn c6
      | (have d6 := c6; try simp at d6
         refine wa_ (wc_region (w_ (f_ (h := w_ (l_ (h := w_ (a_ (h := wo_nil (e_ (h := aft_normal (wc_ret (?_))))))))))))
         )
     )
  all_goals first | refine blk_normal ?_ | refine blk_ret ?_
  all_goals first
  | refine aft_ret ?_
  | (refine aft_normal ?_
     refine wa_ (wc_region (w_ (m_ (h := w_ (f_ (h := w_ (l_ (h := w_ (ca (hc := e_l3WidthI pl (widN pl) hp (look_good hk k1).1 _ (o3 (by omega)).1 (by have := o3 (by omega); omega)) (h := w_ (a_ (h := wo_nil (e_ (h := aft_normal (wc_ret (?_))))))))))))))))
     )
  all_goals (refine fin_ (hr := (res_tmp rfl res_nil)) (h := ?_); (focus (clear hk; simp only [keyN, ndAt_of hd]; simp at * <;> grind)))
end Go.Proofs.Ytmednhpmcplplaa.Ev
namespace Go.Proofs.Ytmednhpmcplplaa.Ev
open Go
set_option maxRecDepth 100000
set_option linter.unusedSimpArgs false
set_option linter.unusedVariables false
set_option maxHeartbeats 2000000
theorem lookR_pre (pl : List Nd) : ∀ (r : List Nd) (ws : List Int), (lookR pl r ws).1.take ws.length = ws
  | [], ws => by simp [lookR]
  | d :: r, ws => by
    unfold lookR
    split
    · have := lookR_pre pl r (ws ++ [widthN d ws])
      have h2 := congrArg (List.take ws.length) this
      rw [List.take_take, List.length_append, Nat.min_eq_left (by omega)] at h2
      rw [h2]; simp
    · simp
theorem lookR_step {pl : List Nd} : ∀ (r : List Nd) (ws : List Int), r = pl.drop ws.length → (lookR pl r ws).2 = 0 → ∀ (n : Nat) d, ws.length ≤ n → pl[n]? = some d → stepC pl d ((lookR pl r ws).1.take n) = 0
  | [], ws, e, _, n, d, hn, hd => by
    have : pl.length ≤ ws.length := by have := congrArg List.length e; simp at this; omega
    have := (List.getElem?_eq_some_iff.mp hd).1
    omega
  | x :: r, ws, e, h, n, d, hn, hd => by
    have hx : pl[ws.length]? = some x := by
      have := congrArg (fun l => l[0]?) e
      simpa using this.symm
    have hr : r = pl.drop (ws.length + 1) := by
      have := congrArg List.tail e
      simpa [List.tail_drop] using this
    by_cases hs : stepC pl x ws = 0
    · have e2 : lookR pl (x :: r) ws = lookR pl r (ws ++ [widthN x ws]) := by rw [lookR, if_pos hs]
      rw [e2] at h ⊢
      by_cases hc : n = ws.length
      · subst hc
        rw [hx] at hd
        cases hd
        have h1 := lookR_pre pl r (ws ++ [widthN x ws])
        have h2 := congrArg (List.take ws.length) h1
        rw [List.take_take, List.length_append, Nat.min_eq_left (by omega)] at h2
        rw [h2]; simpa using hs
      · exact lookR_step r (ws ++ [widthN x ws]) (by simpa using hr) h n d (by simp; omega) hd
    · rw [lookR, if_neg hs] at h
      exact absurd h hs
theorem look_step {pl : List Nd} (h : (lookN pl).2 = 0) {n : Nat} {d : Nd} (hd : pl[n]? = some d) : stepC pl d ((widN pl).take n) = 0 := by
  unfold widN
  unfold lookN at h ⊢
  split at h
  · cases h
  · rename_i hl
    rw [if_neg hl]
    split at h
    · rename_i h0
      rw [if_pos h0]
      exact lookR_step pl [] rfl h0 n d (by simp) hd
    · exact absurd h ‹_›
theorem step_fault {pl : List Nd} {d : Nd} {ws : List Int} (hs : stepC pl d ws = 0) : (1 ≤ d.op ∧ d.op ≤ 12) ∧ d = plainN d ∧ (readsN d).all (okR pl ws.length) = true ∧ faultN d ws = 0 := by
  unfold stepC at hs
  split at hs
  · cases hs
  · rename_i h1
    simp [inI] at h1
    split at hs
    · cases hs
    · rename_i h2
      split at hs
      · cases hs
      · rename_i h3
        exact ⟨by omega, by simpa using h2, by simpa using h3, hs⟩
theorem key_in {pl : List Nd} (hk : okN pl) {a : Int} (hc : nodeC pl a = 0) : 0 ≤ keyN pl a ∧ keyN pl a ≤ 4 := by
  obtain ⟨k1, k2, k3⟩ := nodeC_zero hc
  obtain ⟨d, hd, _⟩ := nd_at k2 k3
  obtain ⟨⟨o1, o2⟩, o3, o4⟩ := in_at hk k1 k2 hd
  have hl := (look_good hk k1)
  have hf := (step_fault (look_step k1 hd)).2.2.2
  have hA : d.op ≠ 1 → 1 ≤ at0 (widN pl) d.a ∧ at0 (widN pl) d.a ≤ 4 ∧ at0 ((widN pl).take a.toNat) d.a = at0 (widN pl) d.a := fun ho => by
    have := o3 ho
    have := wid_at hk k1 (a := d.a) (by omega) (by omega)
    exact ⟨this.1, this.2, at0_take (by omega)⟩
  have hB : d.op = 4 ∨ d.op = 6 → 1 ≤ at0 (widN pl) d.b ∧ at0 (widN pl) d.b ≤ 4 ∧ at0 ((widN pl).take a.toNat) d.b = at0 (widN pl) d.b := fun ho => by
    have := o4 ho
    have := wid_at hk k1 (a := d.b) (by omega) (by omega)
    exact ⟨this.1, this.2, at0_take (by omega)⟩
  simp only [keyN, ndAt_of hd]
  unfold faultN at hf
  by_cases c1 : d.op = 1
  · rw [if_pos c1] at hf
    rw [if_pos (.inl c1)]
    simp [inI] at hf; omega
  · have hA := hA c1
    rw [if_neg c1] at hf
    by_cases c2 : d.op = 2
    · rw [if_neg (by omega)]; omega
    · rw [if_neg c2] at hf
      by_cases c3 : d.op = 3
      · rw [if_neg (by omega)]; omega
      · rw [if_neg c3] at hf
        by_cases c4 : d.op = 4
        · rw [if_neg (by omega)]; omega
        · rw [if_neg c4] at hf
          by_cases c6 : d.op = 6
          · have hB := hB (.inr c6)
            rw [if_pos c6] at hf
            rw [if_pos (by omega)]
            rw [hA.2.2, hB.2.2] at hf
            have hi : inI d.col 1 (min (at0 (widN pl) d.a) (at0 (widN pl) d.b)) = true := by
              cases hi : inI d.col 1 (min (at0 (widN pl) d.a) (at0 (widN pl) d.b)) with
              | true => rfl
              | false => rw [hi] at hf; simp at hf
            simp only [inI, Bool.and_eq_true, decide_eq_true_eq] at hi
            omega
          · rw [if_neg c6] at hf
            by_cases c7 : d.op = 7
            · rw [if_pos c7, hA.2.2] at hf
              rw [if_pos (by omega)]
              have hi : inI d.col 0 (min (at0 (widN pl) d.a) 3) = true := by
                cases hi : inI d.col 0 (min (at0 (widN pl) d.a) 3) with
                | true => rfl
                | false => rw [hi] at hf; simp at hf
              simp only [inI, Bool.and_eq_true, decide_eq_true_eq] at hi
              omega
            · rw [if_neg c7] at hf
              by_cases c8 : 8 ≤ d.op ∧ d.op ≤ 10
              · rw [if_pos c8, hA.2.2] at hf
                rw [if_pos (by omega)]
                have hi : inI d.col 0 (IntKind.i64.wrap (at0 (widN pl) d.a - 1)) = true := by
                  cases hi : inI d.col 0 (IntKind.i64.wrap (at0 (widN pl) d.a - 1)) with
                  | true => rfl
                  | false => rw [hi] at hf; simp at hf
                rw [wrap_id (by omega) (by omega)] at hi
                simp only [inI, Bool.and_eq_true, decide_eq_true_eq] at hi
                omega
              · rw [if_neg (by omega)]; omega
def staysN (d : Nd) : Bool := decide (1 ≤ d.op ∧ d.op ≤ 5)
theorem e_linI (a : Int) : oc.call 197 [.int .i64 a] = some (.bool (inI a 1 5 || decide (a = 12)), []) := by
  refine fun_s rfl cd197 rfl rfl rfl (by simp; rfl) (by simp; rfl) ?_
  refine wa_ (wc_region (w_ (a_ (h := wo_nil (e_ (h := aft_normal (wa_ (wa_ (wc_region (w_ (m_ (h := wo_nil (e_ (h := aft_normal (wc_block (?_))))))))))))))))
  refine wa_ (wa_ (wc_region (w_ (bE (h := w_ (a_ (h := wo_nil (e_ (h := aft_normal (?_))))))))))
  refine c_ (h1 := ?_) (h2 := ?_)
  rotate_right 1
  focus
   intro c1
   first
   | exact dn c1
   | (have d1 := c1; try simp at d1
      refine wa_ (wc_region (w_ (bE (h := w_ (a_ (h := wo_nil (e_ (h := aft_normal (?_)))))))))
      refine c_ (h1 := ?_) (h2 := ?_)
      rotate_right 1
      focus
       intro c2
       first
       | exact dn c2
       | (have d2 := c2; try simp at d2
          refine wa_ (wc_region (w_ (bE (h := w_ (a_ (h := wo_nil (e_ (h := aft_normal (?_)))))))))
          refine c_ (h1 := ?_) (h2 := ?_)
          rotate_right 1
          focus
           intro c3
           first
           | exact dn c3
           | (have d3 := c3; try simp at d3
              refine wa_ (wc_region (w_ (bE (h := w_ (a_ (h := wo_nil (e_ (h := aft_normal (?_)))))))))
              refine c_ (h1 := ?_) (h2 := ?_)
              rotate_right 1
              focus
               intro c4
               first
               | exact dn c4
               | (have d4 := c4; try simp at d4
                  refine wa_ (wc_region (w_ (bE (h := w_ (a_ (h := wo_nil (e_ (h := aft_normal (?_)))))))))
                  refine c_ (h1 := ?_) (h2 := ?_)
                  rotate_right 1
                  focus
                   intro c5
                   first
                   | exact dn c5
                   | (have d5 := c5; try simp at d5
                      refine wc_region (w_ (bE (h := w_ (a_ (h := wo_nil (e_ (h := ?_)))))))
                      )
                  rotate_right 1
                  focus
                   intro c5
                   first
                   | exact dn c5
                   | (have d5 := c5; try simp at d5
                      refine wc_skip (?_)
                      )
                  )
              rotate_right 1
              focus
               intro c4
               first
               | exact dn c4
               | (have d4 := c4; try simp at d4
                  refine wc_skip (?_)
                  )
              )
          rotate_right 1
          focus
           intro c3
           first
           | exact dn c3
           | (have d3 := c3; try simp at d3
              refine wc_skip (?_)
              )
          )
      rotate_right 1
      focus
       intro c2
       first
       | exact dn c2
       | (have d2 := c2; try simp at d2
          refine wc_skip (?_)
          )
      )
  rotate_right 1
  focus
   intro c1
   first
   | exact dn c1
   | (have d1 := c1; try simp at d1
      refine wc_skip (?_)
      )
  all_goals first
  | (refine aft_normal ?_
     refine c_ (h1 := ?_) (h2 := ?_)
     rotate_right 1
     focus
      intro c6
      first
      | exact dn c6
      | (have d6 := c6; try simp at d6
         refine wc_skip (?_)
         )
     rotate_right 1
     focus
      intro c6
      first
      | exact dn c6
      | (have d6 := c6; try simp at d6
         refine wa_ (wc_region (w_ (a_ (h := wo_nil (e_ (h := aft_normal (wc_ret (?_))))))))
         )
     )
  all_goals first | refine blk_normal ?_ | refine blk_ret ?_
  all_goals first
  | refine aft_ret ?_
  | (refine aft_normal ?_
     refine wa_ (wc_region (w_ (a_ (h := wo_nil (e_ (h := aft_normal (wc_ret (?_))))))))
     )
  all_goals (refine fin_ (hr := (res_tmp rfl res_nil)) (h := ?_); (focus (simp [inI]; omega)))
theorem e_linS (a : Int) : oc.call 196 [.int .i64 a] = some (.bool (inI a 1 5 || decide (a = 12)), []) := by
  refine fun_s rfl cd196 rfl rfl rfl (by simp; rfl) (by simp; rfl) ?_
  refine wa_ (wc_region (w_ (a_ (h := wo_nil (e_ (h := aft_normal (wa_ (wc_region (w_ (m_ (h := w_ (ca (hc := e_l1In _ _ _) (h := w_ (m_ (h := ?_)))))))))))))))
  refine gw_ (h1 := ?_) (h2 := ?_)
  rotate_right 1
  focus
   intro c1
   refine go_ (h := go_ (h := ?_))
  rotate_right 1
  focus
   intro c1
   refine g_ (h := w_ (m_ (h := g_ (h := w_ (bE (h := ?_))))))
  all_goals
   refine w_ (pk (h := w_ (a_ (h := wo_nil (e_ (h := ?_))))))
  all_goals first
  | (refine aft_normal ?_
     refine wc_ret (?_)
     )
  all_goals (refine fin_ (hr := (res_tmp rfl res_nil)) (h := ?_); (focus (simp [inI] at * <;> grind)))
theorem e_staysI (d : Nd) : oc.call 166 [d.v false 0] = some (.bool (staysN d), []) := by
  refine fun_s rfl cd166 rfl rfl rfl (by simp; rfl) (by simp; rfl) ?_
  refine wa_ (wc_region (w_ (bx (h := w_ (a_ (h := wo_nil (e_ (h := aft_normal (wa_ (wc_region (w_ (f_ (h := w_ (l_ (h := w_ (ca (hc := e_linI _) (h := w_ (m_ (h := ?_)))))))))))))))))))
  refine gw_ (h1 := ?_) (h2 := ?_)
  rotate_right 1
  focus
   intro c1
   refine go_ (h := go_ (h := go_ (h := ?_)))
  rotate_right 1
  focus
   intro c1
   refine g_ (h := w_ (f_ (h := g_ (h := w_ (l_ (h := g_ (h := w_ (bE (h := ?_)))))))))
  all_goals
   refine w_ (pk (h := w_ (a_ (h := wo_nil (e_ (h := ?_))))))
  all_goals first
  | (refine aft_normal ?_
     refine wc_ret (?_)
     )
  all_goals (refine fin_ (hr := (res_tmp rfl res_nil)) (h := ?_); (focus (simp [staysN, inI] at * <;> grind)))
theorem e_staysS (d : Nd) : oc.call 163 [d.v false 0] = some (.bool (staysN d), []) := by
  refine fun_s rfl cd163 rfl rfl rfl (by simp; rfl) (by simp; rfl) ?_
  refine wa_ (wc_region (w_ (bx (h := w_ (a_ (h := wo_nil (e_ (h := aft_normal (wa_ (wc_region (w_ (f_ (h := w_ (l_ (h := w_ (ca (hc := e_linS _) (h := w_ (m_ (h := ?_)))))))))))))))))))
  refine gw_ (h1 := ?_) (h2 := ?_)
  rotate_right 1
  focus
   intro c1
   refine go_ (h := go_ (h := go_ (h := ?_)))
  rotate_right 1
  focus
   intro c1
   refine g_ (h := w_ (f_ (h := g_ (h := w_ (l_ (h := g_ (h := w_ (bE (h := ?_)))))))))
  all_goals
   refine w_ (pk (h := w_ (a_ (h := wo_nil (e_ (h := ?_))))))
  all_goals first
  | (refine aft_normal ?_
     refine wc_ret (?_)
     )
  all_goals (refine fin_ (hr := (res_tmp rfl res_nil)) (h := ?_); (focus (simp [staysN, inI] at * <;> grind)))
def routeC (pl : List Nd) (a m self : Int) : Int := if nodeC pl a = 0 then (if inI m 1 3 = true ∧ inI self 0 (m - 1) = true then 0 else 3) else nodeC pl a
theorem routeC_zero {pl : List Nd} {a m self : Int} (h : routeC pl a m self = 0) : nodeC pl a = 0 ∧ 1 ≤ m ∧ m ≤ 3 ∧ 0 ≤ self ∧ self < m := by
  unfold routeC at h; split at h
  · split at h
    · rename_i h1 h2; simp [inI] at h2; exact ⟨h1, by omega⟩
    · cases h
  · exact absurd h ‹_›
theorem e_routeI (pl : List Nd) (a m self : Int) (hp : pl.length < 2000000) (hk : okN pl) : oc.call 110 [.lst false 0 (nds false 0 pl), .int .i64 a, .int .i64 m, .int .i64 self] = some (.tup [.lst true 1 (ints (widN pl)), .int .i64 (routeC pl a m self)], []) := by
  refine fun_s rfl cd110 rfl rfl rfl (by simp; rfl) (by simp; rfl) ?_
  have hw : 1 ≤ m → m ≤ 3 → IntKind.i64.wrap (m - 1) = m - 1 := (fun h1 h2 => wrap_id (by omega) (by omega))
  refine wa_ (wc_region (w_ (aN (h := w_ (a_ (h := wo_nil (e_ (h := aft_normal (wa_ (wc_region (w_ (m_ (h := w_ (m_ (h := w_ (ca (hc := e_nodeC pl a hp hk) (h := w_ (m_ (h := ?_)))))))))))))))))))
  refine w_ (ex (h := w_ (ex (h := w_ (a_ (h := w_ (a_ (h := wo_nil (e_ (h := aft_normal (wa_ (wa_ (wc_region (w_ (m_ (h := w_ (bE (h := w_ (m_ (h := ?_))))))))))))))))))))
  refine gw_ (h1 := ?_) (h2 := ?_)
  rotate_right 1
  focus
   intro c1
   first
   | exact dn c1
   | (have d1 := c1; try simp at d1
      refine go_ (h := go_ (h := go_ (h := go_ (h := ?_))))
      )
  rotate_right 1
  focus
   intro c1
   first
   | exact dn c1
   | (have d1 := c1; try simp at d1
      refine g_ (h := w_ (m_ (h := g_ (h := w_ (ca (hc := e_in _ _ _) (h := g_ (h := w_ (u_ (h := g_ (h := w_ (m_ (h := ?_))))))))))))
      )
  all_goals
   first
   | (skip
      refine goN (h := goN (h := goN (h := goN (h := goN (h := ?_)))))
      )
   | (refine gw_ (h1 := ?_) (h2 := ?_)
      rotate_right 1
      focus
       intro c2
       first
       | exact dn c2
       | (have d2 := c2; try simp at d2
          refine go_ (h := go_ (h := go_ (h := go_ (h := go_ (h := ?_)))))
          )
      rotate_right 1
      focus
       intro c2
       first
       | exact dn c2
       | (have d2 := c2; try simp at d2
          refine g_ (h := w_ (m_ (h := g_ (h := w_ (m_ (h := g_ (h := w_ (b_ (h := g_ (h := w_ (ca (hc := e_in _ _ _) (h := g_ (h := w_ (u_ (h := ?_)))))))))))))))
          )
      )
   all_goals
    first
    | (skip
       refine g_ (h := w_ (pk (h := ?_)))
       )
    | (skip
       refine go_ (h := ?_)
       )
    all_goals
     refine w_ (pk (h := wo_nil (e_ (h := ?_))))
  all_goals first
  | (refine aft_normal ?_
     refine c_ (h1 := ?_) (h2 := ?_)
     rotate_right 1
     focus
      intro c3
      first
      | exact dn c3
      | (have d3 := c3; try simp at d3
         refine wc_skip (?_)
         )
     rotate_right 1
     focus
      intro c3
      first
      | exact dn c3
      | (have d3 := c3; try simp at d3
         refine wc_region (w_ (a_ (h := wo_nil (e_ (h := ?_)))))
         )
     )
  all_goals first
  | (refine aft_normal ?_
     refine wa_ (wc_region (w_ (m_ (h := w_ (m_ (h := w_ (a_ (h := w_ (a_ (h := wo_nil (e_ (h := aft_normal (wc_ret (?_))))))))))))))
     )
  all_goals (refine fin_ (hr := (res_tmp rfl (res_tmp rfl res_nil))) (h := ?_); (focus (clear hk; simp [routeC, inI] at * <;> grind)))
theorem e_routeS (pl : List Nd) (a m self : Int) (hp : pl.length < 2000000) (hk : okN pl) : oc.call 107 [.lst false 0 (nds false 0 pl), .int .i64 a, .int .i64 m, .int .i64 self] = some (.int .i64 (routeC pl a m self), []) := by
  refine fun_s rfl cd107 rfl rfl rfl (by simp; rfl) (by simp; rfl) ?_
  have hw : 1 ≤ m → m ≤ 3 → IntKind.i64.wrap (m - 1) = m - 1 := (fun h1 h2 => wrap_id (by omega) (by omega))
  refine wa_ (wc_region (w_ (a_ (h := wo_nil (e_ (h := aft_normal (wa_ (wa_ (wc_region (w_ (m_ (h := w_ (m_ (h := w_ (ca (hc := e_l3Asked pl a hp hk) (h := w_ (a_ (h := ?_))))))))))))))))))
  refine wo_nil (e_ (h := aft_normal (wa_ (wc_region (w_ (m_ (h := w_ (bE (h := wo_nil (e_ (h := aft_normal (?_))))))))))))
  refine c_ (h1 := ?_) (h2 := ?_)
  rotate_right 1
  focus
   intro c1
   first
   | exact dn c1
   | (have d1 := c1; try simp at d1
      refine wc_skip (?_)
      )
  rotate_right 1
  focus
   intro c1
   first
   | exact dn c1
   | (have d1 := c1; try simp at d1
      refine wa_ (wc_region (w_ (m_ (h := w_ (a_ (h := wo_nil (e_ (h := aft_normal (wc_ret (?_))))))))))
      )
  all_goals first
  | refine aft_ret ?_
  | (refine aft_normal ?_
     refine wa_ (wa_ (wc_region (w_ (m_ (h := w_ (ca (hc := e_l1In _ _ _) (h := w_ (u_ (h := w_ (m_ (h := ?_)))))))))))
     refine gw_ (h1 := ?_) (h2 := ?_)
     rotate_right 1
     focus
      intro c2
      first
      | exact dn c2
      | (have d2 := c2; try simp at d2
         refine go_ (h := go_ (h := go_ (h := go_ (h := go_ (h := ?_)))))
         )
     rotate_right 1
     focus
      intro c2
      first
      | exact dn c2
      | (have d2 := c2; try simp at d2
         refine g_ (h := w_ (m_ (h := g_ (h := w_ (m_ (h := g_ (h := w_ (b_ (h := g_ (h := w_ (ca (hc := e_l1In _ _ _) (h := g_ (h := w_ (u_ (h := ?_)))))))))))))))
         )
     all_goals
      refine w_ (pk (h := wo_nil (e_ (h := ?_))))
     all_goals first
     | (refine aft_normal ?_
        refine c_ (h1 := ?_) (h2 := ?_)
        rotate_right 1
        focus
         intro c3
         first
         | exact dn c3
         | (have d3 := c3; try simp at d3
            refine wc_skip (?_)
            )
        rotate_right 1
        focus
         intro c3
         first
         | exact dn c3
         | (have d3 := c3; try simp at d3
            refine wa_ (wc_region (w_ (a_ (h := wo_nil (e_ (h := aft_normal (wc_ret (?_))))))))
            )
        )
     all_goals first
     | refine aft_ret ?_
     | (refine aft_normal ?_
        refine wa_ (wc_region (w_ (a_ (h := wo_nil (e_ (h := aft_normal (wc_ret (?_))))))))
        )
     )
  all_goals (refine fin_ (hr := (res_tmp rfl res_nil)) (h := ?_); (focus (clear hk; simp [routeC, inI] at * <;> grind)))
def dstN (pl : List Nd) (a m self : Int) (r : List Int) : Int := if staysN (ndAt pl a) = true then self else shardN m r (keyN pl a)
theorem dstN_in {pl : List Nd} {a m self : Int} {r : List Int} (h : routeC pl a m self = 0) : 0 ≤ dstN pl a m self r ∧ dstN pl a m self r < m := by
  obtain ⟨_, h1, h2, h3, h4⟩ := routeC_zero h
  unfold dstN
  split
  · omega
  · exact shardN_in (by omega)
theorem e_goI (pl : List Nd) (a m self : Int) (r : List Int) (hp : pl.length < 2000000) (hk : okN pl) (hc : routeC pl a m self = 0) (hr : r.length < 2000000) (hl : keyN pl a ≤ r.length) : oc.call 112 [.lst false 0 (nds false 0 pl), .lst false 0 (ints (widN pl)), .int .i64 a, .int .i64 m, .int .i64 self, .lst false 0 (ints r)] = some (.int .i64 (dstN pl a m self r), []) := by
  refine fun_s rfl cd112 rfl rfl rfl (by simp; rfl) (by simp; rfl) ?_
  obtain ⟨k0, k4, k5, k6, k7⟩ := routeC_zero hc
  obtain ⟨k1, k2, k3⟩ := nodeC_zero k0
  obtain ⟨d, hd, g1⟩ := nd_at k2 k3
  have hkey := key_in hk k0
  refine wa_ (wc_region (w_ (a_ (h := wo_nil (e_ (h := aft_normal (wa_ (wa_ (wc_region (w_ (m_ (h := w_ (m_ (h := w_ (x_ (h := w_ (l_ (h := ?_))))))))))))))))))
  refine w_ (ca (hc := e_staysI d) (h := wo_nil (e_ (h := aft_normal (?_)))))
  refine c_ (h1 := ?_) (h2 := ?_)
  rotate_right 1
  focus
   intro c1
   first
   | exact dn c1
   | (have d1 := c1; try simp at d1
      refine wc_skip (?_)
      )
  rotate_right 1
  focus
   intro c1
   first
   | exact dn c1
   | (have d1 := c1; try simp at d1
      refine wa_ (wc_region (w_ (m_ (h := w_ (a_ (h := wo_nil (e_ (h := aft_normal (wc_ret (?_))))))))))
      )
  all_goals first
  | refine aft_ret ?_
  | (refine aft_normal ?_
     refine wa_ (wc_region (w_ (m_ (h := w_ (m_ (h := w_ (m_ (h := w_ (m_ (h := w_ (m_ (h := w_ (ca (hc := e_keyI pl a hp hk k0) (h := w_ (ca (hc := e_shardI m _ r hr (by omega) hkey.1 hl) (h := w_ (a_ (h := wo_nil (e_ (h := aft_normal (?_)))))))))))))))))))))
     refine wc_ret (?_)
     )
  all_goals (refine fin_ (hr := (res_tmp rfl res_nil)) (h := ?_); (focus (clear hk; simp only [dstN, ndAt_of hd]; simp [d1])))
theorem e_goS (pl : List Nd) (a m self : Int) (r : List Int) (hp : pl.length < 2000000) (hk : okN pl) (hc : routeC pl a m self = 0) (hr : r.length < 2000000) (hl : keyN pl a ≤ r.length) : oc.call 109 [.lst false 0 (nds false 0 pl), .int .i64 a, .int .i64 m, .int .i64 self, .lst false 0 (ints r)] = some (.int .i64 (dstN pl a m self r), []) := by
  refine fun_s rfl cd109 rfl rfl rfl (by simp; rfl) (by simp; rfl) ?_
  obtain ⟨k0, k4, k5, k6, k7⟩ := routeC_zero hc
  obtain ⟨k1, k2, k3⟩ := nodeC_zero k0
  obtain ⟨d, hd, g1⟩ := nd_at k2 k3
  have hkey := key_in hk k0
  refine wa_ (wc_region (w_ (a_ (h := wo_nil (e_ (h := aft_normal (wa_ (wa_ (wc_region (w_ (m_ (h := w_ (m_ (h := w_ (x_ (h := w_ (l_ (h := ?_))))))))))))))))))
  refine w_ (ca (hc := e_staysS d) (h := wo_nil (e_ (h := aft_normal (?_)))))
  refine c_ (h1 := ?_) (h2 := ?_)
  rotate_right 1
  focus
   intro c1
   first
   | exact dn c1
   | (have d1 := c1; try simp at d1
      refine wc_skip (?_)
      )
  rotate_right 1
  focus
   intro c1
   first
   | exact dn c1
   | (have d1 := c1; try simp at d1
      refine wa_ (wc_region (w_ (m_ (h := w_ (a_ (h := wo_nil (e_ (h := aft_normal (wc_ret (?_))))))))))
      )
  all_goals first
  | refine aft_ret ?_
  | (refine aft_normal ?_
     refine wa_ (wc_region (w_ (m_ (h := w_ (m_ (h := w_ (m_ (h := w_ (m_ (h := w_ (ca (hc := e_keyS pl a hp hk k0) (h := w_ (ca (hc := e_shardS m _ r hr (by omega) hkey.1 hl) (h := w_ (a_ (h := wo_nil (e_ (h := aft_normal (wc_ret (?_))))))))))))))))))))
     )
  all_goals (refine fin_ (hr := (res_tmp rfl res_nil)) (h := ?_); (focus (clear hk; simp only [dstN, ndAt_of hd]; simp [d1])))
def goesN (pl : List Nd) (a m self : Int) (r : List Int) : Int × Int := if routeC pl a m self = 0 then (if rowF r = 0 then (if (r.length : Int) < keyN pl a then (1, 0) else (0, dstN pl a m self r)) else (rowF r, 0)) else (routeC pl a m self, 0)
theorem e_goesI (pl : List Nd) (a m self : Int) (r : List Int) (hp : pl.length < 2000000) (hk : okN pl) (hr : r.length < 2000000) : oc.call 44 [.lst false 0 (nds false 0 pl), .int .i64 a, .int .i64 m, .int .i64 self, .lst false 0 (ints r)] = some (.agg [.int .i64 (goesN pl a m self r).1, .int .i64 (goesN pl a m self r).2], []) := by
  refine fun_s rfl cd44 rfl rfl rfl (by simp; rfl) (by simp; rfl) ?_
  refine wa_ (wc_region (w_ (al (h := wo_nil (e_ (h := aft_normal (wa_ (wc_region (w_ (m_ (h := w_ (m_ (h := w_ (m_ (h := w_ (m_ (h := w_ (ca (hc := e_routeI pl a m self hp hk) (h := ?_)))))))))))))))))))
  refine w_ (m_ (h := w_ (ex (h := w_ (ex (h := w_ (a_ (h := w_ (a_ (h := wo_nil (e_ (h := aft_normal (wa_ (wa_ (wc_region (w_ (m_ (h := w_ (bE (h := ?_))))))))))))))))))))
  refine wo_nil (e_ (h := aft_normal (?_)))
  refine c_ (h1 := ?_) (h2 := ?_)
  rotate_right 1
  focus
   intro c1
   first
   | exact dn c1
   | (have d1 := c1; try simp at d1
      refine wc_skip (?_)
      )
  rotate_right 1
  focus
   intro c1
   first
   | exact dn c1
   | (have d1 := c1; try simp at d1
      refine wc_region (w_ (m_ (h := w_ (ca (hc := e_rowI r hr) (h := w_ (a_ (h := wo_nil (e_ (h := ?_)))))))))
      )
  all_goals first
  | (refine aft_normal ?_
     refine wa_ (wa_ (wc_region (w_ (m_ (h := w_ (bE (h := w_ (m_ (h := ?_)))))))))
     refine gw_ (h1 := ?_) (h2 := ?_)
     rotate_right 1
     focus
      intro c2
      first
      | exact dn c2
      | (have d2 := c2; try simp at d2
         refine go_ (h := go_ (h := go_ (h := go_ (h := go_ (h := go_ (h := go_ (h := ?_)))))))
         )
     rotate_right 1
     focus
      intro c2
      first
      | exact dn c2
      | (have d2 := c2; try simp at d2
         refine g_ (h := w_ (m_ (h := g_ (h := w_ (ca (hc := e_size 0 (ints r) (by simp; omega)) (h := g_ (h := w_ (m_ (h := g_ (h := w_ (m_ (h := g_ (h := w_ (m_ (h := g_ (h := w_ (ca (hc := e_keyI pl a hp hk (routeC_zero d1).1) (h := g_ (h := w_ (b_ (h := ?_)))))))))))))))))))))
         )
     all_goals
      refine w_ (pk (h := wo_nil (e_ (h := ?_))))
     all_goals first
     | (refine aft_normal ?_
        refine c_ (h1 := ?_) (h2 := ?_)
        rotate_right 1
        focus
         intro c3
         first
         | exact dn c3
         | (have d3 := c3; try simp at d3
            refine wc_skip (?_)
            )
        rotate_right 1
        focus
         intro c3
         first
         | exact dn c3
         | (have d3 := c3; try simp at d3
            refine wc_region (w_ (a_ (h := wo_nil (e_ (h := ?_)))))
            )
        )
     all_goals first
     | (refine aft_normal ?_
        refine wa_ (wa_ (wc_region (w_ (m_ (h := w_ (bE (h := wo_nil (e_ (h := aft_normal (?_))))))))))
        refine c_ (h1 := ?_) (h2 := ?_)
        rotate_right 1
        focus
         intro c4
         first
         | exact dn c4
         | (have d4 := c4; try simp at d4
            refine wc_skip (?_)
            )
        rotate_right 1
        focus
         intro c4
         first
         | exact dn c4
         | (have d4 := c4; try simp at d4
            refine wa_ (wc_region (w_ (m_ (h := w_ (bd (h := w0 (s_ (h := wo_nil (e_ (h := aft_normal (wc_ret (?_))))))))))))
            )
        all_goals first
        | refine aft_ret ?_
        | (refine aft_normal ?_
           refine wa_ (wc_region (w_ (m_ (h := w_ (m_ (h := w_ (m_ (h := w_ (m_ (h := w_ (m_ (h := w_ (m_ (h := w_ (ca (hc := e_goI pl a m self r hp hk d1 hr (by omega)) (h := w_ (bd (h := w0 (s_ (h := wo_nil (e_ (h := ?_))))))))))))))))))))))
           refine aft_normal (wc_ret (?_))
           )
        )
     )
  all_goals (refine fin_ (hr := (res_cell (tys_ok.zero _ _ rfl) rfl (by simp; rfl) (by rfl) res_nil)) (h := ?_); (focus (clear hk; simp [goesN] at * <;> grind)))
theorem e_goesS (pl : List Nd) (a m self : Int) (r : List Int) (hp : pl.length < 2000000) (hk : okN pl) (hr : r.length < 2000000) : oc.call 43 [.lst false 0 (nds false 0 pl), .int .i64 a, .int .i64 m, .int .i64 self, .lst false 0 (ints r)] = some (.agg [.int .i64 (goesN pl a m self r).1, .int .i64 (goesN pl a m self r).2], []) := by
  refine fun_s rfl cd43 rfl rfl rfl (by simp; rfl) (by simp; rfl) ?_
  refine wa_ (wc_region (w_ (al (h := wo_nil (e_ (h := aft_normal (wa_ (wa_ (wc_region (w_ (m_ (h := w_ (m_ (h := w_ (m_ (h := w_ (m_ (h := ?_))))))))))))))))))
  refine w_ (ca (hc := e_routeS pl a m self hp hk) (h := w_ (a_ (h := wo_nil (e_ (h := aft_normal (wa_ (wc_region (w_ (m_ (h := w_ (bE (h := wo_nil (e_ (h := aft_normal (?_))))))))))))))))
  refine c_ (h1 := ?_) (h2 := ?_)
  rotate_right 1
  focus
   intro c1
   first
   | exact dn c1
   | (have d1 := c1; try simp at d1
      refine wc_skip (?_)
      )
  rotate_right 1
  focus
   intro c1
   first
   | exact dn c1
   | (have d1 := c1; try simp at d1
      refine wa_ (wc_region (w_ (m_ (h := w_ (bd (h := w0 (s_ (h := wo_nil (e_ (h := aft_normal (wc_ret (?_))))))))))))
      )
  all_goals first
  | refine aft_ret ?_
  | (refine aft_normal ?_
     refine wa_ (wa_ (wc_region (w_ (m_ (h := w_ (ca (hc := e_rowS r hr) (h := w_ (a_ (h := wo_nil (e_ (h := aft_normal (wa_ (wc_region (w_ (m_ (h := w_ (bE (h := ?_))))))))))))))))))
     refine wo_nil (e_ (h := aft_normal (?_)))
     refine c_ (h1 := ?_) (h2 := ?_)
     rotate_right 1
     focus
      intro c2
      first
      | exact dn c2
      | (have d2 := c2; try simp at d2
         refine wc_skip (?_)
         )
     rotate_right 1
     focus
      intro c2
      first
      | exact dn c2
      | (have d2 := c2; try simp at d2
         refine wa_ (wc_region (w_ (m_ (h := w_ (bd (h := w0 (s_ (h := wo_nil (e_ (h := aft_normal (wc_ret (?_))))))))))))
         )
     all_goals first
     | refine aft_ret ?_
     | (refine aft_normal ?_
        refine wa_ (wa_ (wc_region (w_ (m_ (h := w_ (le (h := w_ (m_ (h := w_ (m_ (h := w_ (ca (hc := e_keyS pl a hp hk (routeC_zero d1).1) (h := w_ (b_ (h := wo_nil (e_ (h := aft_normal (?_))))))))))))))))))
        refine c_ (h1 := ?_) (h2 := ?_)
        rotate_right 1
        focus
         intro c3
         first
         | exact dn c3
         | (have d3 := c3; try simp at d3
            refine wc_skip (?_)
            )
        rotate_right 1
        focus
         intro c3
         first
         | exact dn c3
         | (have d3 := c3; try simp at d3
            refine wa_ (wc_region (w_ (bd (h := w0 (s_ (h := wo_nil (e_ (h := aft_normal (wc_ret (?_))))))))))
            )
        all_goals first
        | refine aft_ret ?_
        | (refine aft_normal ?_
           refine wa_ (wc_region (w_ (m_ (h := w_ (m_ (h := w_ (m_ (h := w_ (m_ (h := w_ (m_ (h := w_ (ca (hc := e_goS pl a m self r hp hk d1 hr (by omega)) (h := w_ (bd (h := w0 (s_ (h := wo_nil (e_ (h := aft_normal (?_)))))))))))))))))))))
           refine wc_ret (?_)
           )
        )
     )
  all_goals (refine fin_ (hr := (res_cell (tys_ok.zero _ _ rfl) rfl (by simp; rfl) (by rfl) res_nil)) (h := ?_); (focus (clear hk; simp [goesN] at * <;> grind)))
theorem law_goesTo (pl : List Nd) (a m self : Int) (r : List Int) (ho : okB pl) (hr : r.length ≤ 140737488351232) : oc.call 8 [.lst false 0 (nds false 0 pl), .int .i64 a, .int .i64 m, .int .i64 self, .lst false 0 (ints r)] = some (.bool true, []) := by
  refine fun_s rfl cd8 rfl rfl rfl (by simp; rfl) (by simp; rfl) ?_
  refine wa_ (wc_region (w_ (a_ (h := wo_nil (e_ (h := aft_normal (wa_ (wa_ (wc_region (w_ (m_ (h := w_ (le (h := w_ (b_ (h := wo_nil (e_ (h := ?_))))))))))))))))))
  refine aft_normal (?_)
  refine c_ (h1 := ?_) (h2 := ?_)
  rotate_right 1
  focus
   intro c1
   first
   | exact dn c1
   | (have d1 := c1; try simp at d1
      refine wc_skip (?_)
      )
  rotate_right 1
  focus
   intro c1
   first
   | exact dn c1
   | (have d1 := c1; try simp at d1
      refine wa_ (wc_region (w_ (a_ (h := wo_nil (e_ (h := aft_normal (wc_ret (?_))))))))
      )
  all_goals first
  | refine aft_ret ?_
  | (refine aft_normal ?_
     refine wa_ (wc_region (w_ (a_ (h := wo_nil (e_ (h := aft_normal (wa_ (wc_region (w_ (m_ (h := w_ (m_ (h := w_ (ca (hc := e_szNS pl 0 1048576 ho (by omega) (by omega)) (h := w_ (a_ (h := wo_nil (e_ (h := ?_)))))))))))))))))))
     refine aft_normal (wa_ (wa_ (wc_region (w_ (m_ (h := w_ (b_ (h := wo_nil (e_ (h := aft_normal (?_)))))))))))
     refine c_ (h1 := ?_) (h2 := ?_)
     rotate_right 1
     focus
      intro c2
      first
      | exact dn c2
      | (have d2 := c2; try simp at d2
         obtain ⟨h1, h2, h3⟩ := szP_ok (l := pl) (a := 1048576) (by omega) (by omega)
         refine wc_skip (?_)
         )
     rotate_right 1
     focus
      intro c2
      first
      | exact dn c2
      | (have d2 := c2; try simp at d2
         refine wa_ (wc_region (w_ (a_ (h := wo_nil (e_ (h := aft_normal (wc_ret (?_))))))))
         )
     all_goals first
     | refine aft_ret ?_
     | (refine aft_normal ?_
        refine wa_ (wc_region (w_ (m_ (h := w_ (ca (hc := e_toNS pl 0 h1 h2) (h := w_ (m_ (h := w_ (m_ (h := w_ (m_ (h := w_ (m_ (h := w_ (ca (hc := e_toI r 0 (by omega)) (h := w_ (ca (hc := e_goesS pl a m self r h1 h2 (by omega)) (h := w_ (al (h := w0 (s_ (h := ?_))))))))))))))))))))))
        refine wo_nil (e_ (h := aft_normal (wa_ (wc_region (w_ (m_ (h := w_ (ca (hc := e_toNS pl 0 h1 h2) (h := w_ (a_ (h := wo_nil (e_ (h := aft_normal (wa_ (wc_region (w_ (m_ (h := ?_))))))))))))))))))
        refine w_ (ca (hc := e_toI r 0 (by omega)) (h := w_ (a_ (h := wo_nil (e_ (h := aft_normal (wa_ (wc_region (w_ (m_ (h := w_ (m_ (h := w_ (m_ (h := w_ (m_ (h := w_ (m_ (h := w_ (ca (hc := e_goesI pl a m self r h1 h2 (by omega)) (h := ?_)))))))))))))))))))))
        refine w_ (al (h := w0 (s_ (h := wo_nil (e_ (h := aft_normal (wa_ (wa_ (wc_region (w_ (l_ (h := w_ (l_ (h := w_ (ca (hc := e_eqIR _ _ _ _) (h := w_ (u_ (h := wo_nil (e_ (h := ?_))))))))))))))))))))
        refine aft_normal (?_)
        refine c_ (h1 := ?_) (h2 := ?_)
        rotate_right 1
        focus
         intro c3
         first
         | exact dn c3
         | (have d3 := c3; try simp at d3
            refine wc_skip (?_)
            )
        rotate_right 1
        focus
         intro c3
         first
         | exact dn c3
         | (have d3 := c3; try simp at d3
            refine wa_ (wc_region (w_ (a_ (h := wo_nil (e_ (h := aft_normal (wc_ret (?_))))))))
            )
        all_goals first
        | refine aft_ret ?_
        | (refine aft_normal ?_
           refine wa_ (wa_ (wc_region (w_ (m_ (h := w_ (m_ (h := w_ (ca (hc := e_toNS pl 0 h1 h2) (h := w_ (ca (hc := e_eqNS pl pl 0 0 h1 h1 h2 h2) (h := w_ (u_ (h := wo_nil (e_ (h := aft_normal (?_))))))))))))))))
           refine c_ (h1 := ?_) (h2 := ?_)
           rotate_right 1
           focus
            intro c4
            first
            | exact dn c4
            | (have d4 := c4; try simp at d4
               refine wc_skip (?_)
               )
           rotate_right 1
           focus
            intro c4
            first
            | exact dn c4
            | (have d4 := c4; try simp at d4
               refine wa_ (wc_region (w_ (a_ (h := wo_nil (e_ (h := aft_normal (wc_ret (?_))))))))
               )
           all_goals first
           | refine aft_ret ?_
           | (refine aft_normal ?_
              refine wa_ (wa_ (wc_region (w_ (m_ (h := w_ (m_ (h := w_ (ca (hc := e_toI r 0 (by omega)) (h := w_ (ca (hc := e_eqI r r 0 0 (by omega) (by omega)) (h := w_ (u_ (h := wo_nil (e_ (h := aft_normal (?_))))))))))))))))
              refine c_ (h1 := ?_) (h2 := ?_)
              rotate_right 1
              focus
               intro c5
               first
               | exact dn c5
               | (have d5 := c5; try simp at d5
                  refine wc_skip (?_)
                  )
              rotate_right 1
              focus
               intro c5
               first
               | exact dn c5
               | (have d5 := c5; try simp at d5
                  refine wa_ (wc_region (w_ (a_ (h := wo_nil (e_ (h := aft_normal (wc_ret (?_))))))))
                  )
              all_goals first
              | refine aft_ret ?_
              | (refine aft_normal ?_
                 refine wa_ (wc_region (w_ (a_ (h := wo_nil (e_ (h := aft_normal (wc_ret (?_))))))))
                 )
              )
           )
        )
     )
  all_goals (refine fin_ (hr := (res_tmp rfl res_nil)) (h := ?_); (focus (simp)))
end Go.Proofs.Ytmednhpmcplplaa.Ev
namespace Go.Proofs.Ytmednhpmcplplaa.Ev
open Go
set_option maxRecDepth 100000
set_option linter.unusedSimpArgs false
set_option linter.unusedVariables false
set_option maxHeartbeats 2000000
def cmpL : List Int → List Int → Int
  | [], [] => 0
  | [], _ :: _ => -1
  | _ :: _, [] => 1
  | a :: r, b :: s => if a < b then -1 else if b < a then 1 else cmpL r s
theorem cmpL_anti : ∀ (a b : List Int), cmpL a b = -cmpL b a
  | [], [] => rfl
  | [], _ :: _ => rfl
  | _ :: _, [] => rfl
  | a :: r, b :: s => by
    simp only [cmpL]
    rw [cmpL_anti r s]
    split <;> split <;> first | omega | rfl
theorem cmpL_in : ∀ (a b : List Int), -1 ≤ cmpL a b ∧ cmpL a b ≤ 1
  | [], [] => by simp [cmpL]
  | [], _ :: _ => by simp [cmpL]
  | _ :: _, [] => by simp [cmpL]
  | a :: r, b :: s => by
    simp only [cmpL]
    have := cmpL_in r s
    split
    · omega
    · split <;> omega
theorem cmpL_eq : ∀ {a b : List Int}, cmpL a b = 0 ↔ a = b
  | [], [] => by simp [cmpL]
  | [], _ :: _ => by simp [cmpL]
  | _ :: _, [] => by simp [cmpL]
  | a :: r, b :: s => by
    simp only [cmpL, List.cons.injEq]
    rw [← cmpL_eq]
    split
    · constructor <;> intro h <;> omega
    · split
      · constructor <;> intro h <;> omega
      · constructor
        · intro h; exact ⟨by omega, h⟩
        · intro h; exact h.2
theorem e_nanI (a : Int) : oc.call 204 [.int .i64 a] = some (.bool false, []) := by
  refine fun_s rfl cd204 rfl rfl rfl (by simp; rfl) (by simp; rfl) ?_
  refine wa_ (wc_region (w_ (a_ (h := wo_nil (e_ (h := aft_normal (wa_ (wc_region (w_ (m_ (h := w_ (m_ (h := w_ (bE (h := w_ (a_ (h := wo_nil (e_ (h := ?_)))))))))))))))))))
  refine aft_normal (wc_ret (?_))
  all_goals (refine fin_ (hr := (res_tmp rfl res_nil)) (h := ?_); (focus (first | (simp_all; done) | (simp_all <;> omega) | (simp_all <;> split <;> simp_all <;> omega))))
theorem e_cmpi (a b : Int) : oc.call 187 [.int .i64 a, .int .i64 b] = some (.int .i64 (cmpI a b), []) := by
  refine fun_s rfl cd187 rfl rfl rfl (by simp; rfl) (by simp; rfl) ?_
  refine wa_ (wc_region (w_ (a_ (h := wo_nil (e_ (h := aft_normal (wa_ (wc_region (w_ (m_ (h := w_ (ca (hc := e_nanI _) (h := w_ (a_ (h := wo_nil (e_ (h := aft_normal (?_))))))))))))))))))
  refine wa_ (wc_region (w_ (m_ (h := w_ (ca (hc := e_nanI _) (h := w_ (a_ (h := wo_nil (e_ (h := aft_normal (wa_ (wa_ (wc_region (w_ (m_ (h := wo_nil (e_ (h := ?_))))))))))))))))))
  refine aft_normal (?_)
  refine c_ (h1 := ?_) (h2 := ?_)
  rotate_right 1
  focus
   intro c1
   first
   | exact dn c1
   | (have d1 := c1; try simp at d1
      refine wc_skip (?_)
      )
  rotate_right 1
  focus
   intro c1
   first
   | exact dn c1
   | (have d1 := c1; try simp at d1
      refine wa_ (wa_ (wc_region (w_ (m_ (h := wo_nil (e_ (h := aft_normal (?_))))))))
      refine c_ (h1 := ?_) (h2 := ?_)
      rotate_right 1
      focus
       intro c2
       first
       | exact dn c2
       | (have d2 := c2; try simp at d2
          refine wc_skip (?_)
          )
      rotate_right 1
      focus
       intro c2
       first
       | exact dn c2
       | (have d2 := c2; try simp at d2
          refine wa_ (wc_region (w_ (a_ (h := wo_nil (e_ (h := aft_normal (wc_ret (?_))))))))
          )
      all_goals first
      | refine aft_ret ?_
      | (refine aft_normal ?_
         refine wa_ (wc_region (w_ (a_ (h := wo_nil (e_ (h := aft_normal (wc_ret (?_))))))))
         )
      )
  all_goals first
  | refine aft_ret ?_
  | (refine aft_normal ?_
     refine wa_ (wa_ (wc_region (w_ (m_ (h := wo_nil (e_ (h := aft_normal (?_))))))))
     refine c_ (h1 := ?_) (h2 := ?_)
     rotate_right 1
     focus
      intro c3
      first
      | exact dn c3
      | (have d3 := c3; try simp at d3
         refine wc_skip (?_)
         )
     rotate_right 1
     focus
      intro c3
      first
      | exact dn c3
      | (have d3 := c3; try simp at d3
         refine wa_ (wc_region (w_ (a_ (h := wo_nil (e_ (h := aft_normal (wc_ret (?_))))))))
         )
     all_goals first
     | refine aft_ret ?_
     | (refine aft_normal ?_
        refine wa_ (wa_ (wc_region (w_ (m_ (h := w_ (m_ (h := w_ (b_ (h := wo_nil (e_ (h := aft_normal (?_))))))))))))
        refine c_ (h1 := ?_) (h2 := ?_)
        rotate_right 1
        focus
         intro c4
         first
         | exact dn c4
         | (have d4 := c4; try simp at d4
            refine wc_skip (?_)
            )
        rotate_right 1
        focus
         intro c4
         first
         | exact dn c4
         | (have d4 := c4; try simp at d4
            refine wa_ (wc_region (w_ (a_ (h := wo_nil (e_ (h := aft_normal (wc_ret (?_))))))))
            )
        all_goals first
        | refine aft_ret ?_
        | (refine aft_normal ?_
           refine wa_ (wa_ (wc_region (w_ (m_ (h := w_ (m_ (h := w_ (b_ (h := wo_nil (e_ (h := aft_normal (?_))))))))))))
           refine c_ (h1 := ?_) (h2 := ?_)
           rotate_right 1
           focus
            intro c5
            first
            | exact dn c5
            | (have d5 := c5; try simp at d5
               refine wc_skip (?_)
               )
           rotate_right 1
           focus
            intro c5
            first
            | exact dn c5
            | (have d5 := c5; try simp at d5
               refine wa_ (wc_region (w_ (a_ (h := wo_nil (e_ (h := aft_normal (wc_ret (?_))))))))
               )
           all_goals first
           | refine aft_ret ?_
           | (refine aft_normal ?_
              refine wa_ (wc_region (w_ (a_ (h := wo_nil (e_ (h := aft_normal (wc_ret (?_))))))))
              )
           )
        )
     )
  all_goals (refine fin_ (hr := (res_tmp rfl res_nil)) (h := ?_); (focus (simp [cmpI]; grind)))
theorem cmpL_pre : ∀ {a b : List Int}, a.take (min a.length b.length) = b.take (min a.length b.length) → cmpL a b = cmpI a.length b.length
  | [], [], _ => rfl
  | [], y :: s, _ => by simp [cmpL, cmpI] <;> omega
  | x :: r, [], _ => by simp [cmpL, cmpI] <;> omega
  | x :: r, y :: s, h => by
    have hm : min (x :: r).length (y :: s).length = min r.length s.length + 1 := by simp only [List.length_cons]; omega
    rw [hm, List.take_succ_cons, List.take_succ_cons, List.cons.injEq] at h
    have := cmpL_pre h.2
    simp only [cmpL, h.1, Int.lt_irrefl, if_false, this, cmpI, List.length_cons]
    split <;> split <;> first | omega | (split <;> omega) | rfl
theorem cut2 {a b : List Int} {i : Nat} (h : i < min a.length b.length) : ∃ x y, a.drop i = x :: a.drop (i + 1) ∧ b.drop i = y :: b.drop (i + 1) ∧ (a.take (min a.length b.length)).drop i = x :: (a.take (min a.length b.length)).drop (i + 1) ∧ (b.take (min a.length b.length)).drop i = y :: (b.take (min a.length b.length)).drop (i + 1) ∧
    (ints a)[(i : Int).toNat]? = some (.int .i64 x) ∧ (ints b)[(i : Int).toNat]? = some (.int .i64 y) := by
  have h1 : i < a.length := by omega
  have h2 : i < b.length := by omega
  refine ⟨a[i], b[i], List.drop_eq_getElem_cons h1, List.drop_eq_getElem_cons h2, ?_, ?_, ints_at h1, ints_at h2⟩
  · rw [List.drop_eq_getElem_cons (by simp; omega)]; simp
  · rw [List.drop_eq_getElem_cons (by simp; omega)]; simp
theorem l_cmpI (a b : List Int) (ha : a.length < 2000000) (hb : b.length < 2000000) : ∀ i : Nat, (i ≤ min a.length b.length) → ∀ s, normE 2 (some [0, 1, 11, 12]) s = ⟨[(0, .lst false 0 (ints a)), (1, .lst false 0 (ints b)), (11, .int .i64 (if (b.length : Int) < a.length then b.length else a.length)), (12, .int .i64 i)], [], 2⟩ →
    oc.loop 140 2 s = some (if (a.take (min a.length b.length)).drop i = (b.take (min a.length b.length)).drop i then (.exit 0, ⟨[(0, .lst false 0 (ints a)), (1, .lst false 0 (ints b))], [], 2⟩) else (.ret, ⟨[(0, .lst false 0 (ints a)), (1, .lst false 0 (ints b)), (4, .int .i64 (cmpL (a.drop i) (b.drop i)))], [], 2⟩)) := by
  refine loop_ind (σ := Nat) (fun i => min a.length b.length - i) _ (fun i => ⟨[(0, .lst false 0 (ints a)), (1, .lst false 0 (ints b)), (11, .int .i64 (if (b.length : Int) < a.length then b.length else a.length)), (12, .int .i64 i)], [], 2⟩) _ ?_
  intro i hi ih s hs
  refine loop_s cd140 rfl rfl hs ?_
  have hmin : (if (b.length : Int) < a.length then (b.length : Int) else a.length) = (min a.length b.length : Nat) := by split <;> omega
  refine wa_ (wc_region (w_ (b_ (h := wo_nil (e_ (h := aft_normal (wa_ (?_))))))))
  refine c_ (h1 := ?_) (h2 := ?_)
  rotate_right 1
  focus
   intro c1
   first
   | exact dn c1
   | (have d1 := c1; try simp at d1
      have c9 := c1; rw [hmin] at c9; simp at c9; have hi2 : i = min a.length b.length := (by omega)
      refine wc_exit (?_)
      )
  rotate_right 1
  focus
   intro c1
   first
   | exact dn c1
   | (have d1 := c1; try simp at d1
      have c9 := c1; rw [hmin] at c9; simp at c9; have hw := wrap_succ (i := i) (by omega); obtain ⟨x, y, e1, e2, e3, e4, g1, g2⟩ := cut2 (a := a) (b := b) (i := i) (by omega)
      refine wc_skip (?_)
      )
  all_goals first
  | refine aft_exit ?_
  | (refine aft_normal ?_
     refine wa_ (wc_block (wa_ (wc_region (w_ (m_ (h := w_ (a_ (h := wo_nil (e_ (h := aft_normal (wa_ (wc_draw (y_ (m_ (h := ax_ (h := y_ (m_ (h := ax_ (h := ?_)))))))))))))))))))
     refine y_ (x_ (h := ax_ (h := y_ (l_ (h := ax_ (h := y_ (m_ (h := ax_ (h := y_ (m_ (h := ax_ (h := y_ (x_ (h := ax_ (h := y_ (l_ (h := ax_ (h := y_ (ca (hc := e_cmp _ _) (h := ax_ (h := y_ (a_ (h := ax_ (h := wo_nil (ed (h := aft_normal (wa_ (wc_region (?_)))))))))))))))))))))))))))))
     refine w_ (m_ (h := w_ (bE (h := wo_nil (e_ (h := aft_normal (?_)))))))
     refine c_ (h1 := ?_) (h2 := ?_)
     rotate_right 1
     focus
      intro c2
      first
      | exact dn c2
      | (have d2 := c2; try simp at d2
         refine wc_skip (?_)
         )
     rotate_right 1
     focus
      intro c2
      first
      | exact dn c2
      | (have d2 := c2; try simp at d2
         refine wa_ (wc_region (w_ (m_ (h := w_ (a_ (h := wo_nil (e_ (h := aft_normal (wc_ret (?_))))))))))
         )
     all_goals first | refine blk_normal ?_ | refine blk_ret ?_
     all_goals first
     | refine aft_ret ?_
     | (refine aft_normal ?_
        refine wc_region (w_ (b_ (h := w_ (m_ (h := wo_nil (e_ (h := ?_)))))))
        )
     )
  all_goals first
  | (refine (ih (i + 1) (by omega) ?_ _ ?_).trans ?_; (focus (first | omega | (simp; done) | (simp; omega))); (focus (simp [normE, hw]; done)); (focus (simp only [cmpI] at d2; have hxy : x = y := (by grind); rw [e1, e2, e3, e4]; simp [hxy, cmpL])))
  | (apply end_leaf (ex := Ext.ret) 2 (some [0, 1, 4]); (focus (simp [normE]; rfl)); (focus (rw [e1, e2, e3, e4]; simp only [cmpI] at d2; have hxy : x ≠ y := (by grind); simp only [List.cons.injEq, hxy, false_and, if_false, cmpL, cmpI]; grind)))
  | (apply end_leaf (ex := (Ext.exit 0)) 2 (some [0, 1, 4]); (focus (simp [normE]; rfl)); (focus (rw [if_pos (by rw [List.drop_eq_nil_of_le (by simp; omega), List.drop_eq_nil_of_le (by simp; omega)])])))
theorem e_cmpRI (a b : List Int) (ha : a.length < 2000000) (hb : b.length < 2000000) : oc.call 140 [.lst false 0 (ints a), .lst false 0 (ints b)] = some (.int .i64 (cmpL a b), []) := by
  refine fun_s rfl cd140 rfl rfl rfl (by simp; rfl) (by simp; rfl) ?_
  refine wa_ (wc_region (w_ (a_ (h := wo_nil (e_ (h := aft_normal (wa_ (wa_ (wc_region (w_ (m_ (h := w_ (le (h := w_ (m_ (h := w_ (le (h := ?_))))))))))))))))))
  refine w_ (mi (h := w_ (m_ (h := wo_nil (e_ (h := aft_normal (wc_block (?_))))))))
  refine wc_loopI (l_cmpI a b ha hb 0 (by omega) _ (by simp [normE])) ?_ ?_
  rotate_right 1
  focus
   intro c1
   skip
  rotate_right 1
  focus
   intro c1
   skip
  all_goals first | refine blk_ret ?_ | refine blk_exit ?_
  all_goals first
  | refine aft_ret ?_
  | (refine aft_normal ?_
     refine wa_ (wc_region (w_ (m_ (h := w_ (le (h := w_ (m_ (h := w_ (le (h := w_ (ca (hc := e_cmpi _ _) (h := w_ (a_ (h := wo_nil (e_ (h := aft_normal (wc_ret (?_))))))))))))))))))
     )
  all_goals (refine fin_ (hr := (res_tmp rfl res_nil)) (h := ?_); (focus (first | (have h3 := cmpL_pre (a := a) (b := b) (by simpa using c1); simp [h3]; done) | simp)))
theorem l_cmpS (a b : List Int) (ha : a.length < 2000000) (hb : b.length < 2000000) : ∀ i : Nat, (i ≤ min a.length b.length) → ∀ s, normE 2 (some [0, 1, 5]) s = ⟨[(0, .lst false 0 (ints a)), (1, .lst false 0 (ints b)), (5, .int .i64 i)], [], 2⟩ →
    oc.loop 138 2 s = some (if (a.take (min a.length b.length)).drop i = (b.take (min a.length b.length)).drop i then (.exit 0, ⟨[(0, .lst false 0 (ints a)), (1, .lst false 0 (ints b))], [], 2⟩) else (.ret, ⟨[(0, .lst false 0 (ints a)), (1, .lst false 0 (ints b)), (4, .int .i64 (cmpL (a.drop i) (b.drop i)))], [], 2⟩)) := by
  refine loop_ind (σ := Nat) (fun i => min a.length b.length - i) _ (fun i => ⟨[(0, .lst false 0 (ints a)), (1, .lst false 0 (ints b)), (5, .int .i64 i)], [], 2⟩) _ ?_
  intro i hi ih s hs
  refine loop_s cd138 rfl rfl hs ?_
  refine wa_ (wa_ (wc_region (w_ (m_ (h := w_ (m_ (h := w_ (le (h := w_ (b_ (h := w_ (m_ (h := ?_)))))))))))))
  refine gw_ (h1 := ?_) (h2 := ?_)
  rotate_right 1
  focus
   intro c1
   first
   | exact dn c1
   | (have d1 := c1; try simp at d1
      refine go_ (h := go_ (h := go_ (h := go_ (h := ?_))))
      )
  rotate_right 1
  focus
   intro c1
   first
   | exact dn c1
   | (have d1 := c1; try simp at d1
      refine g_ (h := w_ (m_ (h := g_ (h := w_ (m_ (h := g_ (h := w_ (le (h := g_ (h := w_ (b_ (h := ?_))))))))))))
      )
  all_goals
   refine w_ (pk (h := wo_nil (e_ (h := ?_))))
  all_goals first
  | (refine aft_normal ?_
     refine c_ (h1 := ?_) (h2 := ?_)
     rotate_right 1
     focus
      intro c2
      first
      | exact dn c2
      | (have d2 := c2; try simp at d2
         have hi2 : i = min a.length b.length := (by omega)
         refine wc_exit (?_)
         )
     rotate_right 1
     focus
      intro c2
      first
      | exact dn c2
      | (have d2 := c2; try simp at d2
         have hw := wrap_succ (i := i) (by omega); obtain ⟨x, y, e1, e2, e3, e4, g1, g2⟩ := cut2 (a := a) (b := b) (i := i) (by omega)
         refine wc_skip (?_)
         )
     )
  all_goals first
  | refine aft_exit ?_
  | (refine aft_normal ?_
     refine wa_ (wc_block (wa_ (wa_ (wc_draw (y_ (m_ (h := ax_ (h := y_ (m_ (h := ax_ (h := y_ (x_ (h := ax_ (h := y_ (l_ (h := ax_ (h := y_ (m_ (h := ax_ (h := y_ (m_ (h := ax_ (h := y_ (x_ (h := ax_ (h := ?_))))))))))))))))))))))))))
     refine y_ (l_ (h := ax_ (h := y_ (b_ (h := ax_ (h := wo_nil (ed (h := aft_normal (?_)))))))))
     refine c_ (h1 := ?_) (h2 := ?_)
     rotate_right 1
     focus
      intro c3
      first
      | exact dn c3
      | (have d3 := c3; try simp at d3
         refine wc_skip (?_)
         )
     rotate_right 1
     focus
      intro c3
      first
      | exact dn c3
      | (have d3 := c3; try simp at d3
         refine wa_ (wc_region (w_ (a_ (h := wo_nil (e_ (h := aft_normal (wc_ret (?_))))))))
         )
     all_goals first
     | refine aft_ret ?_
     | (refine aft_normal ?_
        refine wa_ (wc_draw (y_ (m_ (h := ax_ (h := y_ (m_ (h := ax_ (h := y_ (x_ (h := ax_ (h := y_ (l_ (h := ax_ (h := y_ (m_ (h := ax_ (h := y_ (m_ (h := ax_ (h := y_ (x_ (h := ax_ (h := y_ (l_ (h := ax_ (h := y_ (b_ (h := ax_ (h := wo_nil (ed (h := ?_)))))))))))))))))))))))))))))))
        refine aft_normal (?_)
        refine c_ (h1 := ?_) (h2 := ?_)
        rotate_right 1
        focus
         intro c4
         first
         | exact dn c4
         | (have d4 := c4; try simp at d4
            refine wc_skip (?_)
            )
        rotate_right 1
        focus
         intro c4
         first
         | exact dn c4
         | (have d4 := c4; try simp at d4
            refine wa_ (wc_region (w_ (a_ (h := wo_nil (e_ (h := aft_normal (wc_ret (?_))))))))
            )
        )
     all_goals first | refine blk_normal ?_ | refine blk_ret ?_
     all_goals first
     | refine aft_ret ?_
     | (refine aft_normal ?_
        refine wc_region (w_ (m_ (h := w_ (b_ (h := w_ (a_ (h := wo_nil (e_ (h := ?_)))))))))
        )
     )
  all_goals first
  | (refine (ih (i + 1) (by omega) ?_ _ ?_).trans ?_; (focus (first | omega | (simp; done) | (simp; omega))); (focus (simp [normE, hw]; done)); (focus (have hxy : x = y := (by omega); rw [e1, e2, e3, e4]; simp [hxy, cmpL])))
  | (apply end_leaf (ex := Ext.ret) 2 (some [0, 1, 4]); (focus (simp [normE]; rfl)); (focus (have hxy : x ≠ y := (by omega); rw [e1, e2, e3, e4]; simp only [List.cons.injEq, hxy, false_and, if_false, cmpL]; rw [if_pos (by omega)])))
  | (apply end_leaf (ex := Ext.ret) 2 (some [0, 1, 4]); (focus (simp [normE]; rfl)); (focus (have hxy : x ≠ y := (by omega); rw [e1, e2, e3, e4]; simp only [List.cons.injEq, hxy, false_and, if_false, cmpL]; rw [if_neg (by omega), if_pos (by omega)])))
  | (apply end_leaf (ex := (Ext.exit 0)) 2 (some [0, 1, 4]); (focus (simp [normE]; rfl)); (focus (rw [if_pos (by rw [List.drop_eq_nil_of_le (by simp; omega), List.drop_eq_nil_of_le (by simp; omega)])])))
theorem e_cmpRS (a b : List Int) (ha : a.length < 2000000) (hb : b.length < 2000000) : oc.call 138 [.lst false 0 (ints a), .lst false 0 (ints b)] = some (.int .i64 (cmpL a b), []) := by
  refine fun_s rfl cd138 rfl rfl rfl (by simp; rfl) (by simp; rfl) ?_
  refine wa_ (wc_region (w_ (a_ (h := wo_nil (e_ (h := aft_normal (wa_ (wa_ (wc_region (w_ (a_ (h := wo_nil (e_ (h := aft_normal (wc_block (?_))))))))))))))))
  refine wc_loopI (l_cmpS a b ha hb 0 (by omega) _ (by simp [normE])) ?_ ?_
  rotate_right 1
  focus
   intro c1
   first
   | exact dn c1
   | (have d1 := c1; try simp at d1
      skip
      )
  rotate_right 1
  focus
   intro c1
   first
   | exact dn c1
   | (have d1 := c1; try simp at d1
      skip
      )
  all_goals first | refine blk_ret ?_ | refine blk_exit ?_
  all_goals first
  | refine aft_ret ?_
  | (refine aft_normal ?_
     refine wa_ (wa_ (wc_region (w_ (m_ (h := w_ (le (h := w_ (m_ (h := w_ (le (h := w_ (b_ (h := wo_nil (e_ (h := aft_normal (?_))))))))))))))))
     refine c_ (h1 := ?_) (h2 := ?_)
     rotate_right 1
     focus
      intro c2
      first
      | exact dn c2
      | (have d2 := c2; try simp at d2
         refine wc_skip (?_)
         )
     rotate_right 1
     focus
      intro c2
      first
      | exact dn c2
      | (have d2 := c2; try simp at d2
         refine wa_ (wc_region (w_ (a_ (h := wo_nil (e_ (h := aft_normal (wc_ret (?_))))))))
         )
     all_goals first
     | refine aft_ret ?_
     | (refine aft_normal ?_
        refine wa_ (wa_ (wc_region (w_ (m_ (h := w_ (le (h := w_ (m_ (h := w_ (le (h := w_ (b_ (h := wo_nil (e_ (h := aft_normal (?_))))))))))))))))
        refine c_ (h1 := ?_) (h2 := ?_)
        rotate_right 1
        focus
         intro c3
         first
         | exact dn c3
         | (have d3 := c3; try simp at d3
            refine wc_skip (?_)
            )
        rotate_right 1
        focus
         intro c3
         first
         | exact dn c3
         | (have d3 := c3; try simp at d3
            refine wa_ (wc_region (w_ (a_ (h := wo_nil (e_ (h := aft_normal (wc_ret (?_))))))))
            )
        all_goals first
        | refine aft_ret ?_
        | (refine aft_normal ?_
           refine wa_ (wc_region (w_ (a_ (h := wo_nil (e_ (h := aft_normal (wc_ret (?_))))))))
           )
        )
     )
  all_goals (refine fin_ (hr := (res_tmp rfl res_nil)) (h := ?_); (focus (first | (have h3 := cmpL_pre (a := a) (b := b) (by simpa using c1); simp [h3, cmpI]; first | omega | grind) | (simp; done))))
end Go.Proofs.Ytmednhpmcplplaa.Ev
namespace Go.Proofs.Ytmednhpmcplplaa.Ev
open Go
set_option maxRecDepth 100000
set_option linter.unusedSimpArgs false
set_option linter.unusedVariables false
set_option maxHeartbeats 2000000
def prevG {α : Type} (l : List α) (i : Nat) : Option α := if i = 0 then none else l[i - 1]?
theorem prevG_succ {α : Type} {l : List α} {i : Nat} {c : α} (h : l[i]? = some c) : prevG l (i + 1) = some c := by simp [prevG, h]
theorem prevE_pos {l : List Et} {i : Nat} (h0 : 0 < i) (h : i ≤ l.length) (hi : i < 2000000000) : ∃ q, q ∈ l ∧ prevG l i = some q ∧ (ets false l)[(IntKind.i64.wrap ((i : Int) - 1)).toNat]? = some (q.v false) ∧ 0 ≤ IntKind.i64.wrap ((i : Int) - 1) := by
  have hw : IntKind.i64.wrap ((i : Int) - 1) = ((i - 1 : Nat) : Int) := by rw [wrap_id (by omega) (by omega)]; omega
  have hlt : i - 1 < l.length := by omega
  refine ⟨l[i - 1], List.getElem_mem hlt, ?_, ?_, by rw [hw]; omega⟩
  · unfold prevG; rw [if_neg (by omega)]; simp [hlt]
  · rw [hw]; exact ets_at hlt
def wOk (n : Int) : Bool := inI n (-1000000000000) 1000000000000
def setR : Option Et → List Et → Int
  | _, [] => 0
  | p, e :: r => if rowF e.row = 0 then (if wOk e.w = false ∨ e.w = 0 then 3 else if (p.elim false fun q => decide (0 ≤ cmpL q.row e.row)) = true then 1 else setR (some e) r) else rowF e.row
def setC (z : List Et) : Int := if 200 < z.length then 2 else setR none z
theorem setR_row {p : Option Et} {e : Et} {r : List Et} (h : ¬ rowF e.row = 0) : setR p (e :: r) = rowF e.row := by rw [setR, if_neg h]
theorem setR_3 {p : Option Et} {e : Et} {r : List Et} (h : rowF e.row = 0) (h2 : wOk e.w = false ∨ e.w = 0) : setR p (e :: r) = 3 := by rw [setR, if_pos h, if_pos h2]
theorem setR_1 {p : Option Et} {e : Et} {r : List Et} (h : rowF e.row = 0) (h2 : ¬ (wOk e.w = false ∨ e.w = 0)) (h3 : (p.elim false fun q => decide (0 ≤ cmpL q.row e.row)) = true) : setR p (e :: r) = 1 := by rw [setR, if_pos h, if_neg h2, if_pos h3]
theorem setR_0 {p : Option Et} {e : Et} {r : List Et} (h : rowF e.row = 0) (h2 : ¬ (wOk e.w = false ∨ e.w = 0)) (h3 : ¬ (p.elim false fun q => decide (0 ≤ cmpL q.row e.row)) = true) : setR p (e :: r) = setR (some e) r := by rw [setR, if_pos h, if_neg h2, if_neg h3]
theorem l_setI (z : List Et) (hz : w_Ets z < 2000000) (hl : z.length ≤ 200) : ∀ i : Nat, (i ≤ z.length) → ∀ s, normE 1 (some [0, 9, 10, 11]) s = ⟨[(0, .lst false 0 (ets false z)), (9, .lst false 0 (ets false z)), (10, .int .i64 z.length), (11, .int .i64 i)], [], 1⟩ →
    oc.loop 83 4 s = some (if setR (prevG z i) (z.drop i) = 0 then (.exit 0, ⟨[], [], 1⟩) else (.ret, ⟨[(2, .int .i64 (setR (prevG z i) (z.drop i)))], [], 1⟩)) := by
  refine loop_ind (σ := Nat) (fun i => z.length - i) _ (fun i => ⟨[(0, .lst false 0 (ets false z)), (9, .lst false 0 (ets false z)), (10, .int .i64 z.length), (11, .int .i64 i)], [], 1⟩) _ ?_
  intro i hi ih s hs
  refine loop_s cd83 rfl rfl hs ?_
  refine wa_ (wc_region (w_ (b_ (h := wo_nil (e_ (h := aft_normal (wa_ (?_))))))))
  refine c_ (h1 := ?_) (h2 := ?_)
  rotate_right 1
  focus
   intro c1
   first
   | exact dn c1
   | (have d1 := c1; try simp at d1
      refine wc_exit (?_)
      )
  rotate_right 1
  focus
   intro c1
   first
   | exact dn c1
   | (have d1 := c1; try simp at d1
      have hw := wrap_succ (i := i) (by omega); obtain ⟨c, hx, e1, g1⟩ := ets_cut (t := false) (l := z) (i := i) (by omega); have hs1 := prevG_succ hx; have hm := w_Ets_mem (List.mem_of_getElem? hx); have hrow : c.row.length < 2000000 := (by unfold w_Et at hm; omega)
      refine wc_skip (?_)
      )
  all_goals first
  | refine aft_exit ?_
  | (refine aft_normal ?_
     refine wa_ (wc_block (wa_ (wc_region (w_ (m_ (h := w_ (x_ (h := w_ (l_ (h := w_ (al (h := w_ (a_ (h := w0 (s_ (h := wo_nil (e_ (h := aft_normal (?_)))))))))))))))))))
     refine wa_ (wa_ (wc_region (w_ (f_ (h := w_ (l_ (h := w_ (ca (hc := e_rowI c.row hrow) (h := w_ (a_ (h := wo_nil (e_ (h := aft_normal (wa_ (wc_region (w_ (m_ (h := ?_))))))))))))))))))
     refine w_ (bE (h := wo_nil (e_ (h := aft_normal (?_)))))
     refine c_ (h1 := ?_) (h2 := ?_)
     rotate_right 1
     focus
      intro c2
      first
      | exact dn c2
      | (have d2 := c2; try simp at d2
         refine wc_skip (?_)
         )
     rotate_right 1
     focus
      intro c2
      first
      | exact dn c2
      | (have d2 := c2; try simp at d2
         refine wa_ (wc_region (w_ (m_ (h := w_ (a_ (h := wo_nil (e_ (h := aft_normal (wc_ret (?_))))))))))
         )
     all_goals first
     | refine aft_ret ?_
     | (refine aft_normal ?_
        refine wa_ (wa_ (wc_region (w_ (f_ (h := w_ (l_ (h := w_ (ca (hc := e_isWeight _) (h := w_ (u_ (h := w_ (m_ (h := ?_)))))))))))))
        refine gw_ (h1 := ?_) (h2 := ?_)
        rotate_right 1
        focus
         intro c3
         first
         | exact dn c3
         | (have d3 := c3; try simp at d3
            refine go_ (h := go_ (h := go_ (h := ?_)))
            )
        rotate_right 1
        focus
         intro c3
         first
         | exact dn c3
         | (have d3 := c3; try simp at d3
            refine g_ (h := w_ (f_ (h := g_ (h := w_ (l_ (h := g_ (h := w_ (bE (h := ?_)))))))))
            )
        all_goals
         refine w_ (pk (h := wo_nil (e_ (h := ?_))))
        all_goals first
        | (refine aft_normal ?_
           refine c_ (h1 := ?_) (h2 := ?_)
           rotate_right 1
           focus
            intro c4
            first
            | exact dn c4
            | (have d4 := c4; try simp at d4
               refine wc_skip (?_)
               )
           rotate_right 1
           focus
            intro c4
            first
            | exact dn c4
            | (have d4 := c4; try simp at d4
               refine wa_ (wc_region (w_ (a_ (h := wo_nil (e_ (h := aft_normal (wc_ret (?_))))))))
               )
           )
        all_goals first
        | refine aft_ret ?_
        | (refine aft_normal ?_
           refine wa_ (wc_draw (y_ (m_ (h := ax_ (h := y_ (b_ (h := ax_ (h := y_ (m_ (h := ax_ (h := ?_)))))))))))
           refine gw_ (h1 := ?_) (h2 := ?_)
           rotate_right 1
           focus
            intro c5
            first
            | exact dn c5
            | (have d5 := c5; try simp at d5
               refine gd_ (h := gd_ (h := gd_ (h := gd_ (h := gd_ (h := gd_ (h := gd_ (h := gd_ (h := gd_ (h := gd_ (h := ?_))))))))))
               )
           rotate_right 1
           focus
            intro c5
            first
            | exact dn c5
            | (have d5 := c5; try simp at d5
               obtain ⟨q, hqm, hq, g2, g3⟩ := prevE_pos (l := z) (i := i) (by omega) (by omega) (by omega); have hm2 := w_Ets_mem hqm; have hrow2 : q.row.length < 2000000 := (by unfold w_Et at hm2; omega)
               refine g_ (h := y_ (m_ (h := ax_ (h := g_ (h := y_ (m_ (h := ax_ (h := g_ (h := y_ (b_ (h := ax_ (h := g_ (h := y_ (x_ (h := ax_ (h := g_ (h := y_ (f_ (h := ax_ (h := g_ (h := y_ (l_ (h := ax_ (h := g_ (h := y_ (f_ (h := ax_ (h := g_ (h := y_ (l_ (h := ax_ (h := g_ (h := y_ (ca (hc := e_cmpRI q.row c.row hrow2 hrow) (h := ax_ (h := g_ (h := y_ (b_ (h := ax_ (h := ?_))))))))))))))))))))))))))))))))))))))))
               )
           all_goals
            refine y_ (pk (h := ax_ (h := wo_nil (ed (h := ?_)))))
           all_goals first
           | (refine aft_normal ?_
              refine c_ (h1 := ?_) (h2 := ?_)
              rotate_right 1
              focus
               intro c6
               first
               | exact dn c6
               | (have d6 := c6; try simp at d6
                  refine wc_skip (?_)
                  )
              rotate_right 1
              focus
               intro c6
               first
               | exact dn c6
               | (have d6 := c6; try simp at d6
                  refine wa_ (wc_region (w_ (a_ (h := wo_nil (e_ (h := aft_normal (wc_ret (?_))))))))
                  )
              )
           )
        )
     all_goals first | refine blk_normal ?_ | refine blk_ret ?_
     all_goals first
     | refine aft_ret ?_
     | (refine aft_normal ?_
        refine wc_region (w_ (b_ (h := w_ (m_ (h := wo_nil (e_ (h := ?_)))))))
        )
     )
  all_goals first
  | (refine (ih (i + 1) (by omega) ?_ _ ?_).trans ?_; (focus (first | omega | (simp; done) | (simp; omega))); (focus (simp [normE, hw]; done)); (focus (rw [hs1, e1, setR_0 d2 (by simp [wOk, d3, d4]) (by first | (rw [hq]; simp; omega) | (subst d5; simp [prevG]))])))
  | (apply end_leaf (ex := Ext.ret) 1 (some [2]); (focus (simp [normE]; rfl)); (focus (rw [e1, setR_row d2]; simp [d2])))
  | (apply end_leaf (ex := Ext.ret) 1 (some [2]); (focus (simp [normE]; rfl)); (focus (rw [e1, setR_3 d2 (by first | exact .inl d3 | exact .inr d4)]; simp)))
  | (apply end_leaf (ex := Ext.ret) 1 (some [2]); (focus (simp [normE]; rfl)); (focus (rw [e1, setR_1 d2 (by simp [wOk, d3, d4]) (by rw [hq]; simp; omega)]; simp)))
  | (apply end_leaf (ex := (Ext.exit 0)) 1 (some [2]); (focus (simp [normE]; rfl)); (focus (rw [List.drop_eq_nil_of_le (by omega)]; simp [setR])))
theorem e_setI (z : List Et) (hz : w_Ets z < 2000000) : oc.call 83 [.lst false 0 (ets false z)] = some (.int .i64 (setC z), []) := by
  refine fun_s rfl cd83 rfl rfl rfl (by simp; rfl) (by simp; rfl) ?_
  refine wa_ (wc_region (w_ (a_ (h := wo_nil (e_ (h := aft_normal (wa_ (wa_ (wc_region (w_ (m_ (h := w_ (le (h := w_ (b_ (h := wo_nil (e_ (h := ?_))))))))))))))))))
  refine aft_normal (?_)
  refine c_ (h1 := ?_) (h2 := ?_)
  rotate_right 1
  focus
   intro c1
   first
   | exact dn c1
   | (have d1 := c1; try simp at d1
      refine wc_skip (?_)
      )
  rotate_right 1
  focus
   intro c1
   first
   | exact dn c1
   | (have d1 := c1; try simp at d1
      refine wa_ (wc_region (w_ (a_ (h := wo_nil (e_ (h := aft_normal (wc_ret (?_))))))))
      )
  all_goals first
  | refine aft_ret ?_
  | (refine aft_normal ?_
     refine wa_ (wa_ (wc_region (w_ (m_ (h := w_ (le (h := w_ (m_ (h := wo_nil (e_ (h := aft_normal (wc_block (?_)))))))))))))
     refine wc_loopI (l_setI z hz (by omega) 0 (by omega) _ (by simp [normE])) ?_ ?_
     rotate_right 1
     focus
      intro c2
      first
      | exact dn c2
      | (have d2 := c2; try simp at d2
         skip
         )
     rotate_right 1
     focus
      intro c2
      first
      | exact dn c2
      | (have d2 := c2; try simp at d2
         skip
         )
     all_goals first | refine blk_ret ?_ | refine blk_exit ?_
     all_goals first
     | refine aft_ret ?_
     | (refine aft_normal ?_
        refine wa_ (wc_region (w_ (a_ (h := wo_nil (e_ (h := aft_normal (wc_ret (?_))))))))
        )
     )
  all_goals (refine fin_ (hr := (res_tmp rfl res_nil)) (h := ?_); (focus (simp [setC, prevG] at * <;> grind)))
theorem l_setS (z : List Et) (hz : w_Ets z < 2000000) (hl : z.length ≤ 200) : ∀ i : Nat, (i ≤ z.length) → ∀ s, normE 1 (some [0, 3]) s = ⟨[(0, .lst false 0 (ets false z)), (3, .int .i64 i)], [], 1⟩ →
    oc.loop 79 4 s = some (if setR (prevG z i) (z.drop i) = 0 then (.exit 0, ⟨[], [], 1⟩) else (.ret, ⟨[(2, .int .i64 (setR (prevG z i) (z.drop i)))], [], 1⟩)) := by
  refine loop_ind (σ := Nat) (fun i => z.length - i) _ (fun i => ⟨[(0, .lst false 0 (ets false z)), (3, .int .i64 i)], [], 1⟩) _ ?_
  intro i hi ih s hs
  refine loop_s cd79 rfl rfl hs ?_
  refine wa_ (wa_ (wc_region (w_ (m_ (h := w_ (m_ (h := w_ (le (h := w_ (b_ (h := wo_nil (e_ (h := aft_normal (?_))))))))))))))
  refine c_ (h1 := ?_) (h2 := ?_)
  rotate_right 1
  focus
   intro c1
   first
   | exact dn c1
   | (have d1 := c1; try simp at d1
      refine wc_exit (?_)
      )
  rotate_right 1
  focus
   intro c1
   first
   | exact dn c1
   | (have d1 := c1; try simp at d1
      have hw := wrap_succ (i := i) (by omega); obtain ⟨c, hx, e1, g1⟩ := ets_cut (t := false) (l := z) (i := i) (by omega); have hs1 := prevG_succ hx; have hm := w_Ets_mem (List.mem_of_getElem? hx); have hrow : c.row.length < 2000000 := (by unfold w_Et at hm; omega)
      refine wc_skip (?_)
      )
  all_goals first
  | refine aft_exit ?_
  | (refine aft_normal ?_
     refine wa_ (wc_block (wa_ (wa_ (wc_region (w_ (m_ (h := w_ (m_ (h := w_ (x_ (h := w_ (f_ (h := w_ (l_ (h := w_ (ca (hc := e_rowS c.row hrow) (h := w_ (a_ (h := ?_)))))))))))))))))))
     refine wo_nil (e_ (h := aft_normal (wa_ (wc_region (w_ (m_ (h := w_ (bE (h := wo_nil (e_ (h := aft_normal (?_))))))))))))
     refine c_ (h1 := ?_) (h2 := ?_)
     rotate_right 1
     focus
      intro c2
      first
      | exact dn c2
      | (have d2 := c2; try simp at d2
         refine wc_skip (?_)
         )
     rotate_right 1
     focus
      intro c2
      first
      | exact dn c2
      | (have d2 := c2; try simp at d2
         refine wa_ (wc_region (w_ (m_ (h := w_ (a_ (h := wo_nil (e_ (h := aft_normal (wc_ret (?_))))))))))
         )
     all_goals first
     | refine aft_ret ?_
     | (refine aft_normal ?_
        refine wa_ (wa_ (wc_region (w_ (m_ (h := w_ (m_ (h := w_ (x_ (h := w_ (f_ (h := w_ (l_ (h := w_ (ca (hc := e_l1Weight _) (h := w_ (u_ (h := w_ (m_ (h := ?_)))))))))))))))))))
        refine gw_ (h1 := ?_) (h2 := ?_)
        rotate_right 1
        focus
         intro c3
         first
         | exact dn c3
         | (have d3 := c3; try simp at d3
            refine go_ (h := go_ (h := go_ (h := go_ (h := go_ (h := go_ (h := ?_))))))
            )
        rotate_right 1
        focus
         intro c3
         first
         | exact dn c3
         | (have d3 := c3; try simp at d3
            refine g_ (h := w_ (m_ (h := g_ (h := w_ (m_ (h := g_ (h := w_ (x_ (h := g_ (h := w_ (f_ (h := g_ (h := w_ (l_ (h := g_ (h := w_ (bE (h := ?_))))))))))))))))))
            )
        all_goals
         refine w_ (pk (h := wo_nil (e_ (h := ?_))))
        all_goals first
        | (refine aft_normal ?_
           refine c_ (h1 := ?_) (h2 := ?_)
           rotate_right 1
           focus
            intro c4
            first
            | exact dn c4
            | (have d4 := c4; try simp at d4
               refine wc_skip (?_)
               )
           rotate_right 1
           focus
            intro c4
            first
            | exact dn c4
            | (have d4 := c4; try simp at d4
               refine wa_ (wc_region (w_ (a_ (h := wo_nil (e_ (h := aft_normal (wc_ret (?_))))))))
               )
           )
        all_goals first
        | refine aft_ret ?_
        | (refine aft_normal ?_
           refine wa_ (wc_draw (y_ (m_ (h := ax_ (h := y_ (b_ (h := ax_ (h := y_ (m_ (h := ax_ (h := ?_)))))))))))
           refine gw_ (h1 := ?_) (h2 := ?_)
           rotate_right 1
           focus
            intro c5
            first
            | exact dn c5
            | (have d5 := c5; try simp at d5
               refine gd_ (h := gd_ (h := gd_ (h := gd_ (h := gd_ (h := gd_ (h := gd_ (h := gd_ (h := gd_ (h := gd_ (h := gd_ (h := gd_ (h := ?_))))))))))))
               refine gd_ (h := ?_)
               )
           rotate_right 1
           focus
            intro c5
            first
            | exact dn c5
            | (have d5 := c5; try simp at d5
               obtain ⟨q, hqm, hq, g2, g3⟩ := prevE_pos (l := z) (i := i) (by omega) (by omega) (by omega); have hm2 := w_Ets_mem hqm; have hrow2 : q.row.length < 2000000 := (by unfold w_Et at hm2; omega); have han := cmpL_anti c.row q.row
               refine g_ (h := y_ (m_ (h := ax_ (h := g_ (h := y_ (m_ (h := ax_ (h := g_ (h := y_ (x_ (h := ax_ (h := g_ (h := y_ (f_ (h := ax_ (h := g_ (h := y_ (l_ (h := ax_ (h := g_ (h := y_ (m_ (h := ax_ (h := g_ (h := y_ (m_ (h := ax_ (h := g_ (h := y_ (b_ (h := ax_ (h := g_ (h := y_ (x_ (h := ax_ (h := g_ (h := y_ (f_ (h := ax_ (h := g_ (h := y_ (l_ (h := ax_ (h := g_ (h := y_ (ca (hc := e_cmpRS c.row q.row hrow hrow2) (h := ax_ (h := ?_))))))))))))))))))))))))))))))))))))))))))))))))
               refine g_ (h := y_ (b_ (h := ax_ (h := ?_))))
               )
           all_goals
            refine y_ (pk (h := ax_ (h := wo_nil (ed (h := ?_)))))
           all_goals first
           | (refine aft_normal ?_
              refine c_ (h1 := ?_) (h2 := ?_)
              rotate_right 1
              focus
               intro c6
               first
               | exact dn c6
               | (have d6 := c6; try simp at d6
                  refine wc_skip (?_)
                  )
              rotate_right 1
              focus
               intro c6
               first
               | exact dn c6
               | (have d6 := c6; try simp at d6
                  refine wa_ (wc_region (w_ (a_ (h := wo_nil (e_ (h := aft_normal (wc_ret (?_))))))))
                  )
              )
           )
        )
     all_goals first | refine blk_normal ?_ | refine blk_ret ?_
     all_goals first
     | refine aft_ret ?_
     | (refine aft_normal ?_
        refine wc_region (w_ (m_ (h := w_ (b_ (h := w_ (a_ (h := wo_nil (e_ (h := ?_)))))))))
        )
     )
  all_goals first
  | (refine (ih (i + 1) (by omega) ?_ _ ?_).trans ?_; (focus (first | omega | (simp; done) | (simp; omega))); (focus (simp [normE, hw]; done)); (focus (rw [hs1, e1, setR_0 d2 (by simp [wOk, d3, d4]) (by first | (rw [hq]; simp; omega) | (subst d5; simp [prevG]))])))
  | (apply end_leaf (ex := Ext.ret) 1 (some [2]); (focus (simp [normE]; rfl)); (focus (rw [e1, setR_row d2]; simp [d2])))
  | (apply end_leaf (ex := Ext.ret) 1 (some [2]); (focus (simp [normE]; rfl)); (focus (rw [e1, setR_3 d2 (by first | exact .inl d3 | exact .inr d4)]; simp)))
  | (apply end_leaf (ex := Ext.ret) 1 (some [2]); (focus (simp [normE]; rfl)); (focus (rw [e1, setR_1 d2 (by simp [wOk, d3, d4]) (by rw [hq]; simp; omega)]; simp)))
  | (apply end_leaf (ex := (Ext.exit 0)) 1 (some [2]); (focus (simp [normE]; rfl)); (focus (rw [List.drop_eq_nil_of_le (by omega)]; simp [setR])))
theorem e_setS (z : List Et) (hz : w_Ets z < 2000000) : oc.call 79 [.lst false 0 (ets false z)] = some (.int .i64 (setC z), []) := by
  refine fun_s rfl cd79 rfl rfl rfl (by simp; rfl) (by simp; rfl) ?_
  refine wa_ (wc_region (w_ (a_ (h := wo_nil (e_ (h := aft_normal (wa_ (wa_ (wc_region (w_ (m_ (h := w_ (le (h := w_ (b_ (h := wo_nil (e_ (h := ?_))))))))))))))))))
  refine aft_normal (?_)
  refine c_ (h1 := ?_) (h2 := ?_)
  rotate_right 1
  focus
   intro c1
   first
   | exact dn c1
   | (have d1 := c1; try simp at d1
      refine wc_skip (?_)
      )
  rotate_right 1
  focus
   intro c1
   first
   | exact dn c1
   | (have d1 := c1; try simp at d1
      refine wa_ (wc_region (w_ (a_ (h := wo_nil (e_ (h := aft_normal (wc_ret (?_))))))))
      )
  all_goals first
  | refine aft_ret ?_
  | (refine aft_normal ?_
     refine wa_ (wa_ (wc_region (w_ (a_ (h := wo_nil (e_ (h := aft_normal (wc_block (?_)))))))))
     refine wc_loopI (l_setS z hz (by omega) 0 (by omega) _ (by simp [normE])) ?_ ?_
     rotate_right 1
     focus
      intro c2
      first
      | exact dn c2
      | (have d2 := c2; try simp at d2
         skip
         )
     rotate_right 1
     focus
      intro c2
      first
      | exact dn c2
      | (have d2 := c2; try simp at d2
         skip
         )
     all_goals first | refine blk_ret ?_ | refine blk_exit ?_
     all_goals first
     | refine aft_ret ?_
     | (refine aft_normal ?_
        refine wa_ (wc_region (w_ (a_ (h := wo_nil (e_ (h := aft_normal (wc_ret (?_))))))))
        )
     )
  all_goals (refine fin_ (hr := (res_tmp rfl res_nil)) (h := ?_); (focus (simp [setC, prevG] at * <;> grind)))
def widF (z : List Et) (k : Int) : Int := if setC z = 0 then (if z.all (fun e => decide ((e.row.length : Int) = k)) = true then 0 else 1) else setC z
theorem l_widI (z : List Et) (k : Int) (hz : w_Ets z < 2000000) : ∀ i : Nat, (i ≤ z.length) → ∀ s, normE 2 (some [1, 13, 14, 15]) s = ⟨[(1, .int .i64 k), (13, .lst false 0 (ets false z)), (14, .int .i64 z.length), (15, .int .i64 i)], [], 2⟩ →
    oc.loop 201 5 s = some (if (z.drop i).all (fun e => decide ((e.row.length : Int) = k)) = true then (.exit 0, ⟨[], [], 2⟩) else (.ret, ⟨[(4, .int .i64 1)], [], 2⟩)) := by
  refine loop_ind (σ := Nat) (fun i => z.length - i) _ (fun i => ⟨[(1, .int .i64 k), (13, .lst false 0 (ets false z)), (14, .int .i64 z.length), (15, .int .i64 i)], [], 2⟩) _ ?_
  intro i hi ih s hs
  refine loop_s cd201 rfl rfl hs ?_
  have hzl := w_Ets_len (l := z)
  refine wa_ (wc_region (w_ (b_ (h := wo_nil (e_ (h := aft_normal (wa_ (?_))))))))
  refine c_ (h1 := ?_) (h2 := ?_)
  rotate_right 1
  focus
   intro c1
   first
   | exact dn c1
   | (have d1 := c1; try simp at d1
      refine wc_exit (?_)
      )
  rotate_right 1
  focus
   intro c1
   first
   | exact dn c1
   | (have d1 := c1; try simp at d1
      have hw := wrap_succ (i := i) (by omega); obtain ⟨c, hx, e1, g1⟩ := ets_cut (t := false) (l := z) (i := i) (by omega); have hm := w_Ets_mem (List.mem_of_getElem? hx); have hrow : c.row.length < 2000000 := (by unfold w_Et at hm; omega)
      refine wc_skip (?_)
      )
  all_goals first
  | refine aft_exit ?_
  | (refine aft_normal ?_
     refine wa_ (wc_block (wa_ (wc_region (w_ (x_ (h := w_ (l_ (h := w_ (al (h := w0 (s_ (h := wo_nil (e_ (h := aft_normal (wa_ (wc_region (?_)))))))))))))))))
     refine w_ (f_ (h := w_ (l_ (h := w_ (ca (hc := e_size 0 (ints c.row) (by simp; omega)) (h := w_ (m_ (h := w_ (bE (h := wo_nil (e_ (h := aft_normal (?_)))))))))))))
     refine c_ (h1 := ?_) (h2 := ?_)
     rotate_right 1
     focus
      intro c2
      first
      | exact dn c2
      | (have d2 := c2; try simp at d2
         refine wc_skip (?_)
         )
     rotate_right 1
     focus
      intro c2
      first
      | exact dn c2
      | (have d2 := c2; try simp at d2
         refine wa_ (wc_region (w_ (a_ (h := wo_nil (e_ (h := aft_normal (wc_ret (?_))))))))
         )
     all_goals first | refine blk_normal ?_ | refine blk_ret ?_
     all_goals first
     | refine aft_ret ?_
     | (refine aft_normal ?_
        refine wc_region (w_ (b_ (h := w_ (m_ (h := wo_nil (e_ (h := ?_)))))))
        )
     )
  all_goals first
  | (refine (ih (i + 1) (by omega) ?_ _ ?_).trans ?_; (focus (first | omega | (simp; done) | (simp; omega))); (focus (simp [normE, hw]; done)); (focus (rw [e1]; simp [d2])))
  | (apply end_leaf (ex := Ext.ret) 2 (some [4]); (focus (simp [normE]; rfl)); (focus (rw [e1]; simp [d2])))
  | (apply end_leaf (ex := (Ext.exit 0)) 2 (some [4]); (focus (simp [normE]; rfl)); (focus (rw [List.drop_eq_nil_of_le (by omega)]; simp)))
theorem e_widI (z : List Et) (k : Int) (hz : w_Ets z < 2000000) : oc.call 201 [.lst false 0 (ets false z), .int .i64 k] = some (.int .i64 (widF z k), []) := by
  refine fun_s rfl cd201 rfl rfl rfl (by simp; rfl) (by simp; rfl) ?_
  refine wa_ (wc_region (w_ (a_ (h := wo_nil (e_ (h := aft_normal (wa_ (wa_ (wc_region (w_ (m_ (h := w_ (ca (hc := e_setI z hz) (h := w_ (a_ (h := wo_nil (e_ (h := ?_))))))))))))))))))
  refine aft_normal (wa_ (wc_region (w_ (m_ (h := w_ (bE (h := wo_nil (e_ (h := aft_normal (?_))))))))))
  refine c_ (h1 := ?_) (h2 := ?_)
  rotate_right 1
  focus
   intro c1
   first
   | exact dn c1
   | (have d1 := c1; try simp at d1
      refine wc_skip (?_)
      )
  rotate_right 1
  focus
   intro c1
   first
   | exact dn c1
   | (have d1 := c1; try simp at d1
      refine wa_ (wc_region (w_ (m_ (h := w_ (a_ (h := wo_nil (e_ (h := aft_normal (wc_ret (?_))))))))))
      )
  all_goals first
  | refine aft_ret ?_
  | (refine aft_normal ?_
     refine wa_ (wa_ (wc_region (w_ (m_ (h := w_ (le (h := w_ (m_ (h := wo_nil (e_ (h := aft_normal (wc_block (?_)))))))))))))
     refine wc_loopI (l_widI z k hz 0 (by omega) _ (by simp [normE])) ?_ ?_
     rotate_right 1
     focus
      intro c2
      first
      | exact dn c2
      | (have d2 := c2; try simp at d2
         skip
         )
     rotate_right 1
     focus
      intro c2
      first
      | exact dn c2
      | (have d2 := c2; try simp at d2
         skip
         )
     all_goals first | refine blk_ret ?_ | refine blk_exit ?_
     all_goals first
     | refine aft_ret ?_
     | (refine aft_normal ?_
        refine wa_ (wc_region (w_ (a_ (h := wo_nil (e_ (h := aft_normal (wc_ret (?_))))))))
        )
     )
  all_goals (refine fin_ (hr := (res_tmp rfl res_nil)) (h := ?_); (focus (simp [widF] at * <;> grind)))
theorem l_widS (z : List Et) (k : Int) (hz : w_Ets z < 2000000) : ∀ i : Nat, (i ≤ z.length) → ∀ s, normE 2 (some [0, 1, 6]) s = ⟨[(0, .lst false 0 (ets false z)), (1, .int .i64 k), (6, .int .i64 i)], [], 2⟩ →
    oc.loop 183 5 s = some (if (z.drop i).all (fun e => decide ((e.row.length : Int) = k)) = true then (.exit 0, ⟨[], [], 2⟩) else (.ret, ⟨[(4, .int .i64 1)], [], 2⟩)) := by
  refine loop_ind (σ := Nat) (fun i => z.length - i) _ (fun i => ⟨[(0, .lst false 0 (ets false z)), (1, .int .i64 k), (6, .int .i64 i)], [], 2⟩) _ ?_
  intro i hi ih s hs
  refine loop_s cd183 rfl rfl hs ?_
  have hzl := w_Ets_len (l := z)
  refine wa_ (wa_ (wc_region (w_ (m_ (h := w_ (m_ (h := w_ (le (h := w_ (b_ (h := wo_nil (e_ (h := aft_normal (?_))))))))))))))
  refine c_ (h1 := ?_) (h2 := ?_)
  rotate_right 1
  focus
   intro c1
   first
   | exact dn c1
   | (have d1 := c1; try simp at d1
      refine wc_exit (?_)
      )
  rotate_right 1
  focus
   intro c1
   first
   | exact dn c1
   | (have d1 := c1; try simp at d1
      have hw := wrap_succ (i := i) (by omega); obtain ⟨c, hx, e1, g1⟩ := ets_cut (t := false) (l := z) (i := i) (by omega)
      refine wc_skip (?_)
      )
  all_goals first
  | refine aft_exit ?_
  | (refine aft_normal ?_
     refine wa_ (wc_block (wa_ (wc_region (w_ (m_ (h := w_ (m_ (h := w_ (x_ (h := w_ (f_ (h := w_ (l_ (h := w_ (le (h := w_ (m_ (h := w_ (bE (h := ?_))))))))))))))))))))
     refine wo_nil (e_ (h := aft_normal (?_)))
     refine c_ (h1 := ?_) (h2 := ?_)
     rotate_right 1
     focus
      intro c2
      first
      | exact dn c2
      | (have d2 := c2; try simp at d2
         refine wc_skip (?_)
         )
     rotate_right 1
     focus
      intro c2
      first
      | exact dn c2
      | (have d2 := c2; try simp at d2
         refine wa_ (wc_region (w_ (a_ (h := wo_nil (e_ (h := aft_normal (wc_ret (?_))))))))
         )
     all_goals first | refine blk_normal ?_ | refine blk_ret ?_
     all_goals first
     | refine aft_ret ?_
     | (refine aft_normal ?_
        refine wc_region (w_ (m_ (h := w_ (b_ (h := w_ (a_ (h := wo_nil (e_ (h := ?_)))))))))
        )
     )
  all_goals first
  | (refine (ih (i + 1) (by omega) ?_ _ ?_).trans ?_; (focus (first | omega | (simp; done) | (simp; omega))); (focus (simp [normE, hw]; done)); (focus (rw [e1]; simp [d2])))
  | (apply end_leaf (ex := Ext.ret) 2 (some [4]); (focus (simp [normE]; rfl)); (focus (rw [e1]; simp [d2])))
  | (apply end_leaf (ex := (Ext.exit 0)) 2 (some [4]); (focus (simp [normE]; rfl)); (focus (rw [List.drop_eq_nil_of_le (by omega)]; simp)))
theorem e_widS (z : List Et) (k : Int) (hz : w_Ets z < 2000000) : oc.call 183 [.lst false 0 (ets false z), .int .i64 k] = some (.int .i64 (widF z k), []) := by
  refine fun_s rfl cd183 rfl rfl rfl (by simp; rfl) (by simp; rfl) ?_
  refine wa_ (wc_region (w_ (a_ (h := wo_nil (e_ (h := aft_normal (wa_ (wa_ (wc_region (w_ (m_ (h := w_ (ca (hc := e_setS z hz) (h := w_ (a_ (h := wo_nil (e_ (h := ?_))))))))))))))))))
  refine aft_normal (wa_ (wc_region (w_ (m_ (h := w_ (bE (h := wo_nil (e_ (h := aft_normal (?_))))))))))
  refine c_ (h1 := ?_) (h2 := ?_)
  rotate_right 1
  focus
   intro c1
   first
   | exact dn c1
   | (have d1 := c1; try simp at d1
      refine wc_skip (?_)
      )
  rotate_right 1
  focus
   intro c1
   first
   | exact dn c1
   | (have d1 := c1; try simp at d1
      refine wa_ (wc_region (w_ (m_ (h := w_ (a_ (h := wo_nil (e_ (h := aft_normal (wc_ret (?_))))))))))
      )
  all_goals first
  | refine aft_ret ?_
  | (refine aft_normal ?_
     refine wa_ (wa_ (wc_region (w_ (a_ (h := wo_nil (e_ (h := aft_normal (wc_block (?_)))))))))
     refine wc_loopI (l_widS z k hz 0 (by omega) _ (by simp [normE])) ?_ ?_
     rotate_right 1
     focus
      intro c2
      first
      | exact dn c2
      | (have d2 := c2; try simp at d2
         skip
         )
     rotate_right 1
     focus
      intro c2
      first
      | exact dn c2
      | (have d2 := c2; try simp at d2
         skip
         )
     all_goals first | refine blk_ret ?_ | refine blk_exit ?_
     all_goals first
     | refine aft_ret ?_
     | (refine aft_normal ?_
        refine wa_ (wc_region (w_ (a_ (h := wo_nil (e_ (h := aft_normal (wc_ret (?_))))))))
        )
     )
  all_goals (refine fin_ (hr := (res_tmp rfl res_nil)) (h := ?_); (focus (simp [widF] at * <;> grind)))
end Go.Proofs.Ytmednhpmcplplaa.Ev
namespace Go.Proofs.Ytmednhpmcplplaa.Ev
open Go
set_option maxRecDepth 100000
set_option linter.unusedSimpArgs false
set_option linter.unusedVariables false
set_option maxHeartbeats 2000000
def mkI (k : Int) (n : Nat) : List Int := (List.range n).map fun (i : Nat) => k + i
@[simp] theorem mkI_len {k : Int} {n : Nat} : (mkI k n).length = n := by simp [mkI]
theorem mkI_at {k : Int} {n i : Nat} (h : i < n) : (mkI k n)[i]? = some (k + i) := by simp [mkI, h]
theorem alikeL_map {α : Type} {f g : α → V} (hf : ∀ x y, (f x).alike (g y) = true) : ∀ {a b : List α}, V.alikeL (a.map f) (b.map g) = decide (a.length = b.length)
  | [], [] => rfl
  | [], _ :: _ => by simp [V.alikeL]
  | _ :: _, [] => by simp [V.alikeL]
  | x :: a, y :: b => by simp only [List.map_cons, V.alikeL, hf, Bool.true_and, alikeL_map hf (a := a) (b := b), List.length_cons, Nat.add_right_cancel_iff]
@[simp] theorem alike_ints (a b : List Int) : V.alikeL (ints a) (ints b) = decide (a.length = b.length) := alikeL_map (fun _ _ => rfl)
theorem set_drop {α : Type} {r l : List α} {i : Nat} {x : α} (h : r.drop i = l.drop i) : (r.set i x).drop (i + 1) = l.drop (i + 1) := by
  rw [List.drop_set_of_lt (by omega), ← List.drop_drop, h, List.drop_drop]
theorem wS_cut {α : Type} {f : α → Nat} {l : List α} {i : Nat} {x : α} (h : l[i]? = some x) : wS f (l.take (i + 1)) = wS f (l.take i) + f x := by
  induction l generalizing i with
  | nil => simp at h
  | cons y r ih =>
    cases i with
    | zero => simp at h; subst h; simp
    | succ i => simp at h; simp only [List.take_succ_cons, wS_cons]; rw [ih h]; omega
theorem wS_take {α : Type} {f : α → Nat} {l : List α} {i : Nat} : wS f (l.take i) ≤ wS f l := by
  induction l generalizing i with
  | nil => simp
  | cons y r ih =>
    cases i with
    | zero => simp
    | succ i => have := ih (i := i); simp only [List.take_succ_cons, wS_cons]; omega
theorem wS_len {α : Type} {f : α → Nat} (hf : ∀ x, 1 ≤ f x) {l : List α} : l.length ≤ wS f l := by
  induction l with
  | nil => simp
  | cons y r ih => have := hf y; simp only [List.length_cons, wS_cons]; omega
theorem l_mk_I (k : Int) (n : Nat) (hk : 0 ≤ k) (hb : k + n < 1000000000000000000) : ∀ x : Nat × (List Int), (x.1 ≤ n ∧ x.2.length = n ∧ x.2.take x.1 = (mkI k n).take x.1) → ∀ s, normE 2 (some [0, 1, 5]) s = ⟨[(0, .ref 0 0 n), (1, .int .i64 (k + x.1)), (5, .int .i64 x.1)], [(0, ⟨false, true, 1, ints x.2, 0⟩)], 2⟩ →
    oc.loop 88 2 s = some (.exit 0, ⟨[(1, .int .i64 (k + n))], [(0, ⟨false, true, 1, ints (mkI k n), 0⟩)], 2⟩) := by
  refine loop_ind (σ := Nat × (List Int)) (fun x => n - x.1) _ (fun x => ⟨[(0, .ref 0 0 n), (1, .int .i64 (k + x.1)), (5, .int .i64 x.1)], [(0, ⟨false, true, 1, ints x.2, 0⟩)], 2⟩) _ ?_
  rintro ⟨i, r⟩ hi ih s hs
  simp only at hi
  refine loop_s cd88 rfl rfl hs ?_
  obtain ⟨hi1, hi2, hi3⟩ := hi
  refine wa_ (wa_ (wc_region (w_ (m_ (h := w_ (m_ (h := w_ (le (h := w_ (b_ (h := wo_nil (e_ (h := aft_normal (?_))))))))))))))
  refine c_ (h1 := ?_) (h2 := ?_)
  rotate_right 1
  focus
   intro c1
   simp at c1; obtain rfl : i = n := (by omega); obtain rfl : r = mkI k i := (by rw [List.take_of_length_le (by omega), List.take_of_length_le (by simp)] at hi3; exact hi3)
   refine wc_exit (?_)
  rotate_right 1
  focus
   intro c1
   simp at c1; have hw := wrap_succ (i := i) (by omega); obtain ⟨y, hy⟩ : ∃ y, r[i]? = some y := (List.getElem?_eq_some_iff.2 ⟨by omega, rfl⟩ |> fun h => ⟨_, h⟩); have g2 : (ints r)[i]? = some (.int .i64 y) := (by simp [ints, hy]); have hw2 : IntKind.i64.wrap (k + (i : Int) + 1) = k + ((i + 1 : Nat) : Int) := (wrap_id (by omega) (by omega)).trans (by omega)
   refine wc_skip (?_)
  all_goals first
  | refine aft_exit ?_
  | (refine aft_normal ?_
     refine wa_ (wc_block (wa_ (wc_region (w_ (m_ (h := w_ (m_ (h := w_ (m_ (h := w_ (x_ (h := w0 (s_ (h := wo_nil (e_ (h := aft_normal (wc_region (?_))))))))))))))))))
     refine w_ (m_ (h := w_ (b_ (h := w_ (a_ (h := wo_nil (e_ (h := blk_normal (aft_normal (wc_region (w_ (m_ (h := w_ (b_ (h := w_ (a_ (h := wo_nil (e_ (h := ?_)))))))))))))))))))
     )
  all_goals first
  | (refine (ih ((i + 1, r.set i (k + i))) (⟨by simp; omega, by simpa using hi2, set_take hi3 (by simpa using hi2) (mkI_at (by omega))⟩) ?_ _ ?_).trans ?_; (focus (first | omega | (simp; done) | (simp; omega))); (focus (simp [normE, hw, hw2]; done)); (focus (rfl)))
  | (apply end_leaf (ex := (Ext.exit 0)) 2 (some [1]); (focus (simp [normE]; rfl)); (focus (simp)))
theorem mk_I (k : Int) (l : List Int) (hk : 0 ≤ k) (hb : k + (l.length : Nat) < 1000000000000000000) : oc.call 88 [.iol 1 (ints l), .int .i64 k] = some (.int .i64 (k + l.length), [.lst true 1 (ints (mkI k l.length))]) := by
  refine fun_s rfl cd88 rfl rfl rfl (by simp; rfl) (by simp; rfl) ?_
  refine wa_ (wc_region (w_ (a_ (h := wo_nil (e_ (h := aft_normal (wa_ (wa_ (wc_region (w_ (a_ (h := wo_nil (e_ (h := aft_normal (wc_block (?_))))))))))))))))
  refine wc_loop (l_mk_I k l.length hk hb (0, l) (by simp) _ (by simp [normE])) ?_
  refine blk_exit (aft_normal (wa_ (wc_region (w_ (m_ (h := w_ (a_ (h := wo_nil (e_ (h := aft_normal (wc_ret (?_))))))))))))
  all_goals (refine fin_ (hr := (res_tmp rfl res_nil)) (h := ?_); (focus (first | (simp_all; done) | (simp_all <;> omega) | (simp_all <;> split <;> simp_all <;> omega))))
theorem l_held_I (k : Int) (n : Nat) (hk : 0 ≤ k) (hb : k + n < 1000000000000000000) : ∀ i : Nat, (i ≤ n) → ∀ s, normE 2 (some [0, 1, 5]) s = ⟨[(0, .lst false 0 (ints (mkI k n))), (1, .int .i64 (k + i)), (5, .int .i64 i)], [], 2⟩ →
    oc.loop 177 2 s = some (.exit 0, ⟨[(1, .int .i64 (k + n))], [], 2⟩) := by
  refine loop_ind (σ := Nat) (fun i => n - i) _ (fun i => ⟨[(0, .lst false 0 (ints (mkI k n))), (1, .int .i64 (k + i)), (5, .int .i64 i)], [], 2⟩) _ ?_
  intro i hi ih s hs
  refine loop_s cd177 rfl rfl hs ?_
  refine wa_ (wa_ (wc_region (w_ (m_ (h := w_ (m_ (h := w_ (le (h := w_ (b_ (h := wo_nil (e_ (h := aft_normal (?_))))))))))))))
  refine c_ (h1 := ?_) (h2 := ?_)
  rotate_right 1
  focus
   intro c1
   first
   | exact dn c1
   | (have d1 := c1; try simp at d1
      refine wc_exit (?_)
      )
  rotate_right 1
  focus
   intro c1
   first
   | exact dn c1
   | (have d1 := c1; try simp at d1
      have hw := wrap_succ (i := i) (by omega); have g2 : (ints (mkI k n))[i]? = some (.int .i64 (k + i)) := (by simp [ints, mkI_at (show i < n by simpa using d1)]); have hw2 : IntKind.i64.wrap (k + (i : Int) + 1) = k + ((i + 1 : Nat) : Int) := (wrap_id (by omega) (by omega)).trans (by omega)
      refine wc_skip (?_)
      )
  all_goals first
  | refine aft_exit ?_
  | (refine aft_normal ?_
     refine wa_ (wc_block (wa_ (wa_ (wc_region (w_ (m_ (h := w_ (m_ (h := w_ (x_ (h := w_ (l_ (h := w_ (m_ (h := w_ (bE (h := wo_nil (e_ (h := ?_)))))))))))))))))))
     refine aft_normal (?_)
     refine c_ (h1 := ?_) (h2 := ?_)
     rotate_right 1
     focus
      intro c2
      first
      | exact dn c2
      | (have d2 := c2; try simp at d2
         refine wc_skip (?_)
         )
     rotate_right 1
     focus
      intro c2
      first
      | exact dn c2
      | (have d2 := c2; try simp at d2
         refine wa_ (wc_region (w_ (a_ (h := wo_nil (e_ (h := aft_normal (wc_ret (?_))))))))
         )
     all_goals first
     | refine aft_ret ?_
     | (refine aft_normal ?_
        refine wc_region (w_ (m_ (h := w_ (b_ (h := w_ (a_ (h := wo_nil (e_ (h := ?_)))))))))
        )
     all_goals first | refine blk_normal ?_ | refine blk_ret ?_
     all_goals first
     | refine aft_ret ?_
     | (refine aft_normal ?_
        refine wc_region (w_ (m_ (h := w_ (b_ (h := w_ (a_ (h := wo_nil (e_ (h := ?_)))))))))
        )
     )
  all_goals first
  | (refine (ih (i + 1) (by omega) ?_ _ ?_).trans ?_; (focus (first | omega | (simp; done) | (simp; omega))); (focus (simp [normE, hw, hw2]; done)); (focus (rfl)))
  | (apply end_leaf (ex := (Ext.exit 0)) 2 (some [1, 4]); (focus (simp [normE]; rfl)); (focus (simp; omega)))
theorem held_I (k : Int) (n : Nat) (hk : 0 ≤ k) (hb : k + n < 1000000000000000000) : oc.call 177 [.lst false 0 (ints (mkI k n)), .int .i64 k] = some (.int .i64 (k + n), []) := by
  refine fun_s rfl cd177 rfl rfl rfl (by simp; rfl) (by simp; rfl) ?_
  refine wa_ (wc_region (w_ (a_ (h := wo_nil (e_ (h := aft_normal (wa_ (wa_ (wc_region (w_ (a_ (h := wo_nil (e_ (h := aft_normal (wc_block (?_))))))))))))))))
  refine wc_loop (l_held_I k n hk hb 0 (by omega) _ (by simp [normE])) ?_
  first | refine blk_ret ?_ | refine blk_exit ?_
  all_goals first
  | refine aft_ret ?_
  | (refine aft_normal ?_
     refine wa_ (wc_region (w_ (m_ (h := w_ (a_ (h := wo_nil (e_ (h := aft_normal (wc_ret (?_))))))))))
     )
  all_goals (refine fin_ (hr := (res_tmp rfl res_nil)) (h := ?_); (focus (first | (simp_all; done) | (simp_all <;> omega) | (simp_all <;> split <;> simp_all <;> omega))))
def cn_Ct (x : Ct) : Nat := 1 + 1 + 1
theorem cn_Ct_pos (x : Ct) : 1 ≤ cn_Ct x := by unfold cn_Ct; omega
def cn_Cts (l : List Ct) : Nat := wS cn_Ct l
theorem cn_Cts_len {l : List Ct} : l.length ≤ cn_Cts l := wS_len cn_Ct_pos
def mk_Ct (k : Int) (x : Ct) : Ct := ⟨k, k + 1, k + 1 + 1⟩
@[simp] theorem mk_Ct_pl (k : Int) (x : Ct) : (mk_Ct k x).pl = k := rfl
@[simp] theorem mk_Ct_ep (k : Int) (x : Ct) : (mk_Ct k x).ep = k + 1 := rfl
@[simp] theorem mk_Ct_n (k : Int) (x : Ct) : (mk_Ct k x).n = k + 1 + 1 := rfl
def mk_Cts (k : Int) : List Ct → List Ct
  | [] => []
  | x :: r => mk_Ct k x :: mk_Cts (k + (cn_Ct x : Nat)) r
@[simp] theorem mk_Cts_len {k : Int} {l : List Ct} : (mk_Cts k l).length = l.length := by
  induction l generalizing k with
  | nil => rfl
  | cons x r ih => simp [mk_Cts, ih]
@[simp] theorem mk_Cts_take {k : Int} {l : List Ct} : (mk_Cts k l).take l.length = mk_Cts k l := List.take_of_length_le (by simp)
theorem mk_Cts_at {k : Int} {l : List Ct} {i : Nat} {x : Ct} (h : l[i]? = some x) : (mk_Cts k l)[i]? = some (mk_Ct (k + (cn_Cts (l.take i) : Nat)) x) := by
  induction l generalizing k i with
  | nil => simp at h
  | cons y r ih =>
    cases i with
    | zero => simp at h; subst h; simp [mk_Cts, cn_Cts]
    | succ i => simp at h; simp only [mk_Cts, List.getElem?_cons_succ, ih h, List.take_succ_cons, cn_Cts, wS_cons]; congr 2; push_cast; omega
@[simp] theorem alike_cts (a b : List Ct) : V.alikeL (cts a) (cts b) = decide (a.length = b.length) := alikeL_map (fun _ _ => rfl)
theorem l_mk_Cts (k : Int) (l : List Ct) (hk : 0 ≤ k) (hb : k + (cn_Cts l : Nat) < 1000000000000000000) : ∀ x : Nat × (List Ct), (x.1 ≤ l.length ∧ x.2.length = l.length ∧ x.2.take x.1 = (mk_Cts k l).take x.1 ∧ x.2.drop x.1 = l.drop x.1) → ∀ s, normE 2 (some [0, 1, 5]) s = ⟨[(0, .ref 0 0 l.length), (1, .int .i64 (k + (cn_Cts (l.take x.1) : Nat))), (5, .int .i64 x.1)], [(0, ⟨false, true, 3, cts x.2, 0⟩)], 2⟩ →
    oc.loop 117 2 s = some (.exit 0, ⟨[(1, .int .i64 (k + (cn_Cts l : Nat)))], [(0, ⟨false, true, 3, cts (mk_Cts k l), 0⟩)], 2⟩) := by
  refine loop_ind (σ := Nat × (List Ct)) (fun x => l.length - x.1) _ (fun x => ⟨[(0, .ref 0 0 l.length), (1, .int .i64 (k + (cn_Cts (l.take x.1) : Nat))), (5, .int .i64 x.1)], [(0, ⟨false, true, 3, cts x.2, 0⟩)], 2⟩) _ ?_
  rintro ⟨i, r⟩ hi ih s hs
  simp only at hi
  refine loop_s cd117 rfl rfl hs ?_
  obtain ⟨hi1, hi2, hi3, hi4⟩ := hi
  have hlen := cn_Cts_len (l := l)
  refine wa_ (wa_ (wc_region (w_ (m_ (h := w_ (m_ (h := w_ (le (h := w_ (b_ (h := wo_nil (e_ (h := aft_normal (?_))))))))))))))
  refine c_ (h1 := ?_) (h2 := ?_)
  rotate_right 1
  focus
   intro c1
   simp at c1; obtain rfl : i = l.length := (by omega); obtain rfl : r = mk_Cts k l := (by rw [List.take_of_length_le (by omega), List.take_of_length_le (by simp)] at hi3; exact hi3)
   refine wc_exit (?_)
  rotate_right 1
  focus
   intro c1
   simp at c1; have hw := wrap_succ (i := i) (by omega); obtain ⟨y, hx, _, _⟩ := cts_cut (l := l) (i := i) c1; have hy : r[i]? = some y := (by have := congrArg (fun q => q[0]?) hi4; simpa [hx] using this); have g2 : (cts r)[i]? = some (Ct.v (y)) := (by simp [cts, hy]); have hcut := wS_cut (f := cn_Ct) hx; have hle := wS_take (f := cn_Ct) (l := l) (i := i + 1); have hcy : cn_Ct y = 1 + 1 + 1 := rfl; change cn_Cts (l.take (i + 1)) = cn_Cts (l.take i) + cn_Ct y at hcut; change cn_Cts (l.take (i + 1)) ≤ cn_Cts l at hle; have hw0 : IntKind.i64.wrap (k + (cn_Cts (l.take i) : Nat) + 1) = k + (cn_Cts (l.take i) : Nat) + 1 := wrap_id (by omega) (by omega); have hw1 : IntKind.i64.wrap (k + (cn_Cts (l.take i) : Nat) + 1 + 1) = k + (cn_Cts (l.take i) : Nat) + 1 + 1 := wrap_id (by omega) (by omega); have hw2 : IntKind.i64.wrap (k + (cn_Cts (l.take i) : Nat) + 1 + 1 + 1) = k + ((cn_Cts (l.take (i + 1)) : Nat) : Int) := (by rw [hcut]; exact (wrap_id (by omega) (by omega)).trans (by omega))
   refine wc_skip (?_)
  all_goals first
  | refine aft_exit ?_
  | (refine aft_normal ?_
     refine wa_ (wc_block (wa_ (wc_region (w_ (m_ (h := w_ (m_ (h := w_ (m_ (h := w_ (x_ (h := w_ (f_ (h := w0 (s_ (h := wo_nil (e_ (h := aft_normal (?_)))))))))))))))))))
     refine wa_ (wc_region (w_ (m_ (h := w_ (b_ (h := w_ (a_ (h := wo_nil (e_ (h := aft_normal (wa_ (wc_region (w_ (m_ (h := w_ (m_ (h := w_ (m_ (h := ?_)))))))))))))))))))
     refine w_ (x_ (h := w_ (f_ (h := w0 (s_ (h := wo_nil (e_ (h := aft_normal (wa_ (wc_region (w_ (m_ (h := w_ (b_ (h := w_ (a_ (h := wo_nil (e_ (h := aft_normal (?_))))))))))))))))))))
     refine wa_ (wc_region (w_ (m_ (h := w_ (m_ (h := w_ (m_ (h := w_ (x_ (h := w_ (f_ (h := w0 (s_ (h := wo_nil (e_ (h := aft_normal (wc_region (w_ (m_ (h := ?_))))))))))))))))))))
     refine w_ (b_ (h := w_ (a_ (h := wo_nil (e_ (h := blk_normal (aft_normal (wc_region (w_ (m_ (h := w_ (b_ (h := w_ (a_ (h := wo_nil (e_ (h := ?_)))))))))))))))))
     )
  all_goals first
  | (refine (ih ((i + 1, r.set i (mk_Ct (k + (cn_Cts (l.take i) : Nat)) y))) (⟨by simp; omega, by simpa using hi2, set_take hi3 (by simpa using hi2) (mk_Cts_at hx), set_drop hi4⟩) ?_ _ ?_).trans ?_; (focus (first | omega | (simp; done) | (simp; omega))); (focus (simp [normE, hw, hw0, hw1, hw2, mk_Ct]; done)); (focus (rfl)))
  | (apply end_leaf (ex := (Ext.exit 0)) 2 (some [1]); (focus (simp [normE]; rfl)); (focus (simp)))
theorem mkf_Cts (k : Int) (l : List Ct) (hk : 0 ≤ k) (hb : k + (cn_Cts l : Nat) < 1000000000000000000) : oc.call 117 [.iol 3 (cts l), .int .i64 k] = some (.int .i64 (k + (cn_Cts l : Nat)), [.lst true 3 (cts (mk_Cts k l))]) := by
  refine fun_s rfl cd117 rfl rfl rfl (by simp; rfl) (by simp; rfl) ?_
  refine wa_ (wc_region (w_ (a_ (h := wo_nil (e_ (h := aft_normal (wa_ (wa_ (wc_region (w_ (a_ (h := wo_nil (e_ (h := aft_normal (wc_block (?_))))))))))))))))
  refine wc_loop (l_mk_Cts k l hk hb (0, l) (by simp) _ (by simp [normE, cn_Cts])) ?_
  refine blk_exit (aft_normal (wa_ (wc_region (w_ (m_ (h := w_ (a_ (h := wo_nil (e_ (h := aft_normal (wc_ret (?_))))))))))))
  all_goals (refine fin_ (hr := (res_tmp rfl res_nil)) (h := ?_); (focus (first | (simp_all; done) | (simp_all <;> omega) | (simp_all <;> split <;> simp_all <;> omega))))
theorem l_held_Cts (k : Int) (l : List Ct) (hk : 0 ≤ k) (hb : k + (cn_Cts l : Nat) < 1000000000000000000) : ∀ i : Nat, (i ≤ l.length) → ∀ s, normE 2 (some [0, 1, 5]) s = ⟨[(0, .lst false 0 (cts (mk_Cts k l))), (1, .int .i64 (k + (cn_Cts (l.take i) : Nat))), (5, .int .i64 i)], [], 2⟩ →
    oc.loop 118 2 s = some (.exit 0, ⟨[(1, .int .i64 (k + (cn_Cts l : Nat)))], [], 2⟩) := by
  refine loop_ind (σ := Nat) (fun i => l.length - i) _ (fun i => ⟨[(0, .lst false 0 (cts (mk_Cts k l))), (1, .int .i64 (k + (cn_Cts (l.take i) : Nat))), (5, .int .i64 i)], [], 2⟩) _ ?_
  intro i hi ih s hs
  refine loop_s cd118 rfl rfl hs ?_
  have hlen := cn_Cts_len (l := l)
  refine wa_ (wa_ (wc_region (w_ (m_ (h := w_ (m_ (h := w_ (le (h := w_ (b_ (h := wo_nil (e_ (h := aft_normal (?_))))))))))))))
  refine c_ (h1 := ?_) (h2 := ?_)
  rotate_right 1
  focus
   intro c1
   first
   | exact dn c1
   | (have d1 := c1; try simp at d1
      obtain rfl : i = l.length := (by omega)
      refine wc_exit (?_)
      )
  rotate_right 1
  focus
   intro c1
   first
   | exact dn c1
   | (have d1 := c1; try simp at d1
      have hc1 : i < l.length := (by simpa using d1); have hw := wrap_succ (i := i) (by omega); obtain ⟨y, hx, _, _⟩ := cts_cut (l := l) (i := i) hc1; have g2 : (cts (mk_Cts k l))[i]? = some (Ct.v (mk_Ct (k + (cn_Cts (l.take i) : Nat)) y)) := (by simp [cts, mk_Cts_at hx]); have hcut := wS_cut (f := cn_Ct) hx; have hle := wS_take (f := cn_Ct) (l := l) (i := i + 1); have hcy : cn_Ct y = 1 + 1 + 1 := rfl; change cn_Cts (l.take (i + 1)) = cn_Cts (l.take i) + cn_Ct y at hcut; change cn_Cts (l.take (i + 1)) ≤ cn_Cts l at hle; have hw0 : IntKind.i64.wrap (k + (cn_Cts (l.take i) : Nat) + 1) = k + (cn_Cts (l.take i) : Nat) + 1 := wrap_id (by omega) (by omega); have hw1 : IntKind.i64.wrap (k + (cn_Cts (l.take i) : Nat) + 1 + 1) = k + (cn_Cts (l.take i) : Nat) + 1 + 1 := wrap_id (by omega) (by omega); have hw2 : IntKind.i64.wrap (k + (cn_Cts (l.take i) : Nat) + 1 + 1 + 1) = k + ((cn_Cts (l.take (i + 1)) : Nat) : Int) := (by rw [hcut]; exact (wrap_id (by omega) (by omega)).trans (by omega))
      refine wc_skip (?_)
      )
  all_goals first
  | refine aft_exit ?_
  | (refine aft_normal ?_
     refine wa_ (wc_block (wa_ (wa_ (wc_region (w_ (m_ (h := w_ (m_ (h := w_ (x_ (h := w_ (f_ (h := w_ (l_ (h := w_ (m_ (h := w_ (bE (h := ?_)))))))))))))))))))
     refine wo_nil (e_ (h := aft_normal (?_)))
     refine c_ (h1 := ?_) (h2 := ?_)
     rotate_right 1
     focus
      intro c2
      first
      | exact dn c2
      | (have d2 := c2; try simp at d2
         refine wc_skip (?_)
         )
     rotate_right 1
     focus
      intro c2
      first
      | exact dn c2
      | (have d2 := c2; try simp at d2
         refine wa_ (wc_region (w_ (a_ (h := wo_nil (e_ (h := aft_normal (wc_ret (?_))))))))
         )
     all_goals first
     | refine aft_ret ?_
     | (refine aft_normal ?_
        refine wa_ (wc_region (w_ (m_ (h := w_ (b_ (h := w_ (a_ (h := wo_nil (e_ (h := aft_normal (wa_ (wa_ (wc_region (w_ (m_ (h := w_ (m_ (h := ?_))))))))))))))))))
        refine w_ (x_ (h := w_ (f_ (h := w_ (l_ (h := w_ (m_ (h := w_ (bE (h := wo_nil (e_ (h := aft_normal (?_)))))))))))))
        refine c_ (h1 := ?_) (h2 := ?_)
        rotate_right 1
        focus
         intro c3
         first
         | exact dn c3
         | (have d3 := c3; try simp at d3
            refine wc_skip (?_)
            )
        rotate_right 1
        focus
         intro c3
         first
         | exact dn c3
         | (have d3 := c3; try simp at d3
            refine wa_ (wc_region (w_ (a_ (h := wo_nil (e_ (h := aft_normal (wc_ret (?_))))))))
            )
        all_goals first
        | refine aft_ret ?_
        | (refine aft_normal ?_
           refine wa_ (wc_region (w_ (m_ (h := w_ (b_ (h := w_ (a_ (h := wo_nil (e_ (h := aft_normal (wa_ (wa_ (wc_region (w_ (m_ (h := w_ (m_ (h := ?_))))))))))))))))))
           refine w_ (x_ (h := w_ (f_ (h := w_ (l_ (h := w_ (m_ (h := w_ (bE (h := wo_nil (e_ (h := aft_normal (?_)))))))))))))
           refine c_ (h1 := ?_) (h2 := ?_)
           rotate_right 1
           focus
            intro c4
            first
            | exact dn c4
            | (have d4 := c4; try simp at d4
               refine wc_skip (?_)
               )
           rotate_right 1
           focus
            intro c4
            first
            | exact dn c4
            | (have d4 := c4; try simp at d4
               refine wa_ (wc_region (w_ (a_ (h := wo_nil (e_ (h := aft_normal (wc_ret (?_))))))))
               )
           all_goals first
           | refine aft_ret ?_
           | (refine aft_normal ?_
              refine wc_region (w_ (m_ (h := w_ (b_ (h := w_ (a_ (h := wo_nil (e_ (h := ?_)))))))))
              )
           )
        )
     all_goals first | refine blk_normal ?_ | refine blk_ret ?_
     all_goals first
     | refine aft_ret ?_
     | (refine aft_normal ?_
        refine wc_region (w_ (m_ (h := w_ (b_ (h := w_ (a_ (h := wo_nil (e_ (h := ?_)))))))))
        )
     )
  all_goals first
  | (refine (ih (i + 1) (by omega) ?_ _ ?_).trans ?_; (focus (first | omega | (simp; done) | (simp; omega))); (focus (simp [normE, hw, hw0, hw1, hw2]; done)); (focus (rfl)))
  | (apply end_leaf (ex := (Ext.exit 0)) 2 (some [1, 4]); (focus (simp [normE]; rfl)); (focus (simp)))
  | (apply end_leaf (ex := Ext.ret) 2 (some [1, 4]); (focus (simp [normE]; rfl)); (focus (exfalso; clear ih hs hw; simp only [hw0, hw1] at *; simp at *)))
theorem held_Cts (k : Int) (l : List Ct) (hk : 0 ≤ k) (hb : k + (cn_Cts l : Nat) < 1000000000000000000) : oc.call 118 [.lst false 0 (cts (mk_Cts k l)), .int .i64 k] = some (.int .i64 (k + (cn_Cts l : Nat)), []) := by
  refine fun_s rfl cd118 rfl rfl rfl (by simp; rfl) (by simp; rfl) ?_
  refine wa_ (wc_region (w_ (a_ (h := wo_nil (e_ (h := aft_normal (wa_ (wa_ (wc_region (w_ (a_ (h := wo_nil (e_ (h := aft_normal (wc_block (?_))))))))))))))))
  refine wc_loop (l_held_Cts k l hk hb 0 (by omega) _ (by simp [normE, cn_Cts])) ?_
  first | refine blk_ret ?_ | refine blk_exit ?_
  all_goals first
  | refine aft_ret ?_
  | (refine aft_normal ?_
     refine wa_ (wc_region (w_ (m_ (h := w_ (a_ (h := wo_nil (e_ (h := aft_normal (wc_ret (?_))))))))))
     )
  all_goals (refine fin_ (hr := (res_tmp rfl res_nil)) (h := ?_); (focus (first | (simp_all; done) | (simp_all <;> omega) | (simp_all <;> split <;> simp_all <;> omega))))
def cn_Nd (x : Nd) : Nat := 1 + 1 + 1 + 1 + 1 + 1 + x.cells.length
theorem cn_Nd_pos (x : Nd) : 1 ≤ cn_Nd x := by unfold cn_Nd; omega
def cn_Nds (l : List Nd) : Nat := wS cn_Nd l
theorem cn_Nds_len {l : List Nd} : l.length ≤ cn_Nds l := wS_len cn_Nd_pos
def mk_Nd (k : Int) (x : Nd) : Nd := ⟨k, k + 1, k + 1 + 1, k + 1 + 1 + 1, k + 1 + 1 + 1 + 1, k + 1 + 1 + 1 + 1 + 1, mkI (k + 1 + 1 + 1 + 1 + 1 + 1) x.cells.length⟩
@[simp] theorem mk_Nd_op (k : Int) (x : Nd) : (mk_Nd k x).op = k := rfl
@[simp] theorem mk_Nd_a (k : Int) (x : Nd) : (mk_Nd k x).a = k + 1 := rfl
@[simp] theorem mk_Nd_b (k : Int) (x : Nd) : (mk_Nd k x).b = k + 1 + 1 := rfl
@[simp] theorem mk_Nd_col (k : Int) (x : Nd) : (mk_Nd k x).col = k + 1 + 1 + 1 := rfl
@[simp] theorem mk_Nd_test (k : Int) (x : Nd) : (mk_Nd k x).test = k + 1 + 1 + 1 + 1 := rfl
@[simp] theorem mk_Nd_value (k : Int) (x : Nd) : (mk_Nd k x).value = k + 1 + 1 + 1 + 1 + 1 := rfl
@[simp] theorem mk_Nd_cells (k : Int) (x : Nd) : (mk_Nd k x).cells = mkI (k + 1 + 1 + 1 + 1 + 1 + 1) x.cells.length := rfl
def mk_Nds (k : Int) : List Nd → List Nd
  | [] => []
  | x :: r => mk_Nd k x :: mk_Nds (k + (cn_Nd x : Nat)) r
@[simp] theorem mk_Nds_len {k : Int} {l : List Nd} : (mk_Nds k l).length = l.length := by
  induction l generalizing k with
  | nil => rfl
  | cons x r ih => simp [mk_Nds, ih]
@[simp] theorem mk_Nds_take {k : Int} {l : List Nd} : (mk_Nds k l).take l.length = mk_Nds k l := List.take_of_length_le (by simp)
theorem mk_Nds_at {k : Int} {l : List Nd} {i : Nat} {x : Nd} (h : l[i]? = some x) : (mk_Nds k l)[i]? = some (mk_Nd (k + (cn_Nds (l.take i) : Nat)) x) := by
  induction l generalizing k i with
  | nil => simp at h
  | cons y r ih =>
    cases i with
    | zero => simp at h; subst h; simp [mk_Nds, cn_Nds]
    | succ i => simp at h; simp only [mk_Nds, List.getElem?_cons_succ, ih h, List.take_succ_cons, cn_Nds, wS_cons]; congr 2; push_cast; omega
@[simp] theorem alike_nds (t u : Bool) (s z : Nat) (a b : List Nd) : V.alikeL (nds t s a) (nds u z b) = decide (a.length = b.length) := alikeL_map (fun _ _ => rfl)
theorem l_mk_Nds (k : Int) (l : List Nd) (hk : 0 ≤ k) (hb : k + (cn_Nds l : Nat) < 1000000000000000000) : ∀ x : Nat × (List Nd), (x.1 ≤ l.length ∧ x.2.length = l.length ∧ x.2.take x.1 = (mk_Nds k l).take x.1 ∧ x.2.drop x.1 = l.drop x.1) → ∀ s, normE 2 (some [0, 1, 5]) s = ⟨[(0, .ref 0 0 l.length), (1, .int .i64 (k + (cn_Nds (l.take x.1) : Nat))), (5, .int .i64 x.1)], [(0, ⟨false, true, 7, nds true 1 x.2, 0⟩)], 2⟩ →
    oc.loop 48 2 s = some (.exit 0, ⟨[(1, .int .i64 (k + (cn_Nds l : Nat)))], [(0, ⟨false, true, 7, nds true 1 (mk_Nds k l), 0⟩)], 2⟩) := by
  refine loop_ind (σ := Nat × (List Nd)) (fun x => l.length - x.1) _ (fun x => ⟨[(0, .ref 0 0 l.length), (1, .int .i64 (k + (cn_Nds (l.take x.1) : Nat))), (5, .int .i64 x.1)], [(0, ⟨false, true, 7, nds true 1 x.2, 0⟩)], 2⟩) _ ?_
  rintro ⟨i, r⟩ hi ih s hs
  simp only at hi
  refine loop_s cd48 rfl rfl hs ?_
  obtain ⟨hi1, hi2, hi3, hi4⟩ := hi
  have hlen := cn_Nds_len (l := l)
  refine wa_ (wa_ (wc_region (w_ (m_ (h := w_ (m_ (h := w_ (le (h := w_ (b_ (h := wo_nil (e_ (h := aft_normal (?_))))))))))))))
  refine c_ (h1 := ?_) (h2 := ?_)
  rotate_right 1
  focus
   intro c1
   simp at c1; obtain rfl : i = l.length := (by omega); obtain rfl : r = mk_Nds k l := (by rw [List.take_of_length_le (by omega), List.take_of_length_le (by simp)] at hi3; exact hi3)
   refine wc_exit (?_)
  rotate_right 1
  focus
   intro c1
   simp at c1; have hw := wrap_succ (i := i) (by omega); obtain ⟨y, hx, _, _⟩ := nds_cut (t := false) (s := 0) (l := l) (i := i) c1; have hy : r[i]? = some y := (by have := congrArg (fun q => q[0]?) hi4; simpa [hx] using this); have g2 : (nds true 1 r)[i]? = some (Nd.v true 1 (y)) := (by simp [nds, hy]); have hcut := wS_cut (f := cn_Nd) hx; have hle := wS_take (f := cn_Nd) (l := l) (i := i + 1); have hcy : cn_Nd y = 1 + 1 + 1 + 1 + 1 + 1 + y.cells.length := rfl; change cn_Nds (l.take (i + 1)) = cn_Nds (l.take i) + cn_Nd y at hcut; change cn_Nds (l.take (i + 1)) ≤ cn_Nds l at hle; have hw0 : IntKind.i64.wrap (k + (cn_Nds (l.take i) : Nat) + 1) = k + (cn_Nds (l.take i) : Nat) + 1 := wrap_id (by omega) (by omega); have hw1 : IntKind.i64.wrap (k + (cn_Nds (l.take i) : Nat) + 1 + 1) = k + (cn_Nds (l.take i) : Nat) + 1 + 1 := wrap_id (by omega) (by omega); have hw2 : IntKind.i64.wrap (k + (cn_Nds (l.take i) : Nat) + 1 + 1 + 1) = k + (cn_Nds (l.take i) : Nat) + 1 + 1 + 1 := wrap_id (by omega) (by omega); have hw3 : IntKind.i64.wrap (k + (cn_Nds (l.take i) : Nat) + 1 + 1 + 1 + 1) = k + (cn_Nds (l.take i) : Nat) + 1 + 1 + 1 + 1 := wrap_id (by omega) (by omega); have hw4 : IntKind.i64.wrap (k + (cn_Nds (l.take i) : Nat) + 1 + 1 + 1 + 1 + 1) = k + (cn_Nds (l.take i) : Nat) + 1 + 1 + 1 + 1 + 1 := wrap_id (by omega) (by omega); have hw5 : IntKind.i64.wrap (k + (cn_Nds (l.take i) : Nat) + 1 + 1 + 1 + 1 + 1 + 1) = k + (cn_Nds (l.take i) : Nat) + 1 + 1 + 1 + 1 + 1 + 1 := wrap_id (by omega) (by omega); have hw6 : k + (cn_Nds (l.take i) : Nat) + 1 + 1 + 1 + 1 + 1 + 1 + (y.cells.length : Nat) = k + ((cn_Nds (l.take (i + 1)) : Nat) : Int) := (by rw [hcut]; omega)
   refine wc_skip (?_)
  all_goals first
  | refine aft_exit ?_
  | (refine aft_normal ?_
     refine wa_ (wc_block (wa_ (wc_region (w_ (m_ (h := w_ (m_ (h := w_ (m_ (h := w_ (x_ (h := w_ (f_ (h := w0 (s_ (h := wo_nil (e_ (h := aft_normal (?_)))))))))))))))))))
     refine wa_ (wc_region (w_ (m_ (h := w_ (b_ (h := w_ (a_ (h := wo_nil (e_ (h := aft_normal (wa_ (wc_region (w_ (m_ (h := w_ (m_ (h := w_ (m_ (h := ?_)))))))))))))))))))
     refine w_ (x_ (h := w_ (f_ (h := w0 (s_ (h := wo_nil (e_ (h := aft_normal (wa_ (wc_region (w_ (m_ (h := w_ (b_ (h := w_ (a_ (h := wo_nil (e_ (h := aft_normal (?_))))))))))))))))))))
     refine wa_ (wc_region (w_ (m_ (h := w_ (m_ (h := w_ (m_ (h := w_ (x_ (h := w_ (f_ (h := w0 (s_ (h := wo_nil (e_ (h := aft_normal (wa_ (wc_region (?_)))))))))))))))))))
     refine w_ (m_ (h := w_ (b_ (h := w_ (a_ (h := wo_nil (e_ (h := aft_normal (wa_ (wc_region (w_ (m_ (h := w_ (m_ (h := w_ (m_ (h := w_ (x_ (h := w_ (f_ (h := ?_)))))))))))))))))))))
     refine w0 (s_ (h := wo_nil (e_ (h := aft_normal (wa_ (wc_region (w_ (m_ (h := w_ (b_ (h := w_ (a_ (h := wo_nil (e_ (h := aft_normal (wa_ (wc_region (?_))))))))))))))))))
     refine w_ (m_ (h := w_ (m_ (h := w_ (m_ (h := w_ (x_ (h := w_ (f_ (h := w0 (s_ (h := wo_nil (e_ (h := aft_normal (wa_ (wc_region (w_ (m_ (h := w_ (b_ (h := ?_)))))))))))))))))))))
     refine w_ (a_ (h := wo_nil (e_ (h := aft_normal (wa_ (wc_region (w_ (m_ (h := w_ (m_ (h := w_ (m_ (h := w_ (x_ (h := w_ (f_ (h := w0 (s_ (h := wo_nil (e_ (h := ?_)))))))))))))))))))))
     refine aft_normal (wa_ (wc_region (w_ (m_ (h := w_ (b_ (h := w_ (a_ (h := wo_nil (e_ (h := aft_normal (wc_region (w_ (m_ (h := w_ (m_ (h := w_ (x_ (h := ?_)))))))))))))))))))
     refine w_ (f_ (h := w_ (l_ (h := w_ (m_ (h := ?_))))))
     first | refine ip (hc := (by (try simp only [hw0, hw1, hw2, hw3, hw4, hw5, hw6]); exact mk_I (k + (cn_Nds (l.take i) : Nat) + 1 + 1 + 1 + 1 + 1 + 1) y.cells (by omega) (by omega))) (h := ?_) | refine iq (hc := (by (try simp only [hw0, hw1, hw2, hw3, hw4, hw5, hw6]); exact mk_I (k + (cn_Nds (l.take i) : Nat) + 1 + 1 + 1 + 1 + 1 + 1) y.cells (by omega) (by omega))) (h := ?_)
     refine w_ (a_ (h := wo_nil (e_ (h := blk_normal (aft_normal (wc_region (w_ (m_ (h := w_ (b_ (h := w_ (a_ (h := wo_nil (e_ (h := ?_)))))))))))))))
     )
  all_goals first
  | (refine (ih ((i + 1, r.set i (mk_Nd (k + (cn_Nds (l.take i) : Nat)) y))) (⟨by simp; omega, by simpa using hi2, set_take hi3 (by simpa using hi2) (mk_Nds_at hx), set_drop hi4⟩) ?_ _ ?_).trans ?_; (focus (first | omega | (simp; done) | (simp; omega))); (focus (simp [normE, hw, hw0, hw1, hw2, hw3, hw4, hw5, hw6, mk_Nd]; done)); (focus (rfl)))
  | (apply end_leaf (ex := (Ext.exit 0)) 2 (some [1]); (focus (simp [normE]; rfl)); (focus (simp)))
theorem mkf_Nds (k : Int) (l : List Nd) (hk : 0 ≤ k) (hb : k + (cn_Nds l : Nat) < 1000000000000000000) : oc.call 48 [.iol 7 (nds true 1 l), .int .i64 k] = some (.int .i64 (k + (cn_Nds l : Nat)), [.lst true 7 (nds true 1 (mk_Nds k l))]) := by
  refine fun_s rfl cd48 rfl rfl rfl (by simp; rfl) (by simp; rfl) ?_
  refine wa_ (wc_region (w_ (a_ (h := wo_nil (e_ (h := aft_normal (wa_ (wa_ (wc_region (w_ (a_ (h := wo_nil (e_ (h := aft_normal (wc_block (?_))))))))))))))))
  refine wc_loop (l_mk_Nds k l hk hb (0, l) (by simp) _ (by simp [normE, cn_Nds])) ?_
  refine blk_exit (aft_normal (wa_ (wc_region (w_ (m_ (h := w_ (a_ (h := wo_nil (e_ (h := aft_normal (wc_ret (?_))))))))))))
  all_goals (refine fin_ (hr := (res_tmp rfl res_nil)) (h := ?_); (focus (first | (simp_all; done) | (simp_all <;> omega) | (simp_all <;> split <;> simp_all <;> omega))))
def cn_Et (x : Et) : Nat := x.row.length + 1
theorem cn_Et_pos (x : Et) : 1 ≤ cn_Et x := by unfold cn_Et; omega
def cn_Ets (l : List Et) : Nat := wS cn_Et l
theorem cn_Ets_len {l : List Et} : l.length ≤ cn_Ets l := wS_len cn_Et_pos
def mk_Et (k : Int) (x : Et) : Et := ⟨mkI (k) x.row.length, k + (x.row.length : Nat)⟩
@[simp] theorem mk_Et_row (k : Int) (x : Et) : (mk_Et k x).row = mkI (k) x.row.length := rfl
@[simp] theorem mk_Et_w (k : Int) (x : Et) : (mk_Et k x).w = k + (x.row.length : Nat) := rfl
def mk_Ets (k : Int) : List Et → List Et
  | [] => []
  | x :: r => mk_Et k x :: mk_Ets (k + (cn_Et x : Nat)) r
@[simp] theorem mk_Ets_len {k : Int} {l : List Et} : (mk_Ets k l).length = l.length := by
  induction l generalizing k with
  | nil => rfl
  | cons x r ih => simp [mk_Ets, ih]
@[simp] theorem mk_Ets_take {k : Int} {l : List Et} : (mk_Ets k l).take l.length = mk_Ets k l := List.take_of_length_le (by simp)
theorem mk_Ets_at {k : Int} {l : List Et} {i : Nat} {x : Et} (h : l[i]? = some x) : (mk_Ets k l)[i]? = some (mk_Et (k + (cn_Ets (l.take i) : Nat)) x) := by
  induction l generalizing k i with
  | nil => simp at h
  | cons y r ih =>
    cases i with
    | zero => simp at h; subst h; simp [mk_Ets, cn_Ets]
    | succ i => simp at h; simp only [mk_Ets, List.getElem?_cons_succ, ih h, List.take_succ_cons, cn_Ets, wS_cons]; congr 2; push_cast; omega
@[simp] theorem alike_ets (t u : Bool) (a b : List Et) : V.alikeL (ets t a) (ets u b) = decide (a.length = b.length) := alikeL_map (fun _ _ => rfl)
theorem l_mk_Ets (k : Int) (l : List Et) (hk : 0 ≤ k) (hb : k + (cn_Ets l : Nat) < 1000000000000000000) : ∀ x : Nat × (List Et), (x.1 ≤ l.length ∧ x.2.length = l.length ∧ x.2.take x.1 = (mk_Ets k l).take x.1 ∧ x.2.drop x.1 = l.drop x.1) → ∀ s, normE 2 (some [0, 1, 5]) s = ⟨[(0, .ref 0 0 l.length), (1, .int .i64 (k + (cn_Ets (l.take x.1) : Nat))), (5, .int .i64 x.1)], [(0, ⟨false, true, 2, ets true x.2, 0⟩)], 2⟩ →
    oc.loop 26 2 s = some (.exit 0, ⟨[(1, .int .i64 (k + (cn_Ets l : Nat)))], [(0, ⟨false, true, 2, ets true (mk_Ets k l), 0⟩)], 2⟩) := by
  refine loop_ind (σ := Nat × (List Et)) (fun x => l.length - x.1) _ (fun x => ⟨[(0, .ref 0 0 l.length), (1, .int .i64 (k + (cn_Ets (l.take x.1) : Nat))), (5, .int .i64 x.1)], [(0, ⟨false, true, 2, ets true x.2, 0⟩)], 2⟩) _ ?_
  rintro ⟨i, r⟩ hi ih s hs
  simp only at hi
  refine loop_s cd26 rfl rfl hs ?_
  obtain ⟨hi1, hi2, hi3, hi4⟩ := hi
  have hlen := cn_Ets_len (l := l)
  refine wa_ (wa_ (wc_region (w_ (m_ (h := w_ (m_ (h := w_ (le (h := w_ (b_ (h := wo_nil (e_ (h := aft_normal (?_))))))))))))))
  refine c_ (h1 := ?_) (h2 := ?_)
  rotate_right 1
  focus
   intro c1
   simp at c1; obtain rfl : i = l.length := (by omega); obtain rfl : r = mk_Ets k l := (by rw [List.take_of_length_le (by omega), List.take_of_length_le (by simp)] at hi3; exact hi3)
   refine wc_exit (?_)
  rotate_right 1
  focus
   intro c1
   simp at c1; have hw := wrap_succ (i := i) (by omega); obtain ⟨y, hx, _, _⟩ := ets_cut (t := false) (l := l) (i := i) c1; have hy : r[i]? = some y := (by have := congrArg (fun q => q[0]?) hi4; simpa [hx] using this); have g2 : (ets true r)[i]? = some (Et.v true (y)) := (by simp [ets, hy]); have hcut := wS_cut (f := cn_Et) hx; have hle := wS_take (f := cn_Et) (l := l) (i := i + 1); have hcy : cn_Et y = y.row.length + 1 := rfl; change cn_Ets (l.take (i + 1)) = cn_Ets (l.take i) + cn_Et y at hcut; change cn_Ets (l.take (i + 1)) ≤ cn_Ets l at hle; have hw1 : IntKind.i64.wrap (k + (cn_Ets (l.take i) : Nat) + (y.row.length : Nat) + 1) = k + ((cn_Ets (l.take (i + 1)) : Nat) : Int) := (by rw [hcut]; exact (wrap_id (by omega) (by omega)).trans (by omega))
   refine wc_skip (?_)
  all_goals first
  | refine aft_exit ?_
  | (refine aft_normal ?_
     refine wa_ (wc_block (wa_ (wc_region (w_ (m_ (h := w_ (m_ (h := w_ (x_ (h := w_ (f_ (h := w_ (l_ (h := w_ (m_ (h := ?_))))))))))))))))
     first | refine ip (hc := (by (try simp only [hw1]); exact mk_I (k + (cn_Ets (l.take i) : Nat)) y.row (by omega) (by omega))) (h := ?_) | refine iq (hc := (by (try simp only [hw1]); exact mk_I (k + (cn_Ets (l.take i) : Nat)) y.row (by omega) (by omega))) (h := ?_)
     refine w_ (a_ (h := wo_nil (e_ (h := aft_normal (wa_ (wc_region (w_ (m_ (h := w_ (m_ (h := w_ (m_ (h := w_ (x_ (h := w_ (f_ (h := w0 (s_ (h := wo_nil (e_ (h := ?_)))))))))))))))))))))
     refine aft_normal (wc_region (w_ (m_ (h := w_ (b_ (h := w_ (a_ (h := wo_nil (e_ (h := blk_normal (aft_normal (wc_region (w_ (m_ (h := w_ (b_ (h := w_ (a_ (h := ?_)))))))))))))))))))
     refine wo_nil (e_ (h := ?_))
     )
  all_goals first
  | (refine (ih ((i + 1, r.set i (mk_Et (k + (cn_Ets (l.take i) : Nat)) y))) (⟨by simp; omega, by simpa using hi2, set_take hi3 (by simpa using hi2) (mk_Ets_at hx), set_drop hi4⟩) ?_ _ ?_).trans ?_; (focus (first | omega | (simp; done) | (simp; omega))); (focus (simp [normE, hw, hw1, mk_Et]; done)); (focus (rfl)))
  | (apply end_leaf (ex := (Ext.exit 0)) 2 (some [1]); (focus (simp [normE]; rfl)); (focus (simp)))
theorem mkf_Ets (k : Int) (l : List Et) (hk : 0 ≤ k) (hb : k + (cn_Ets l : Nat) < 1000000000000000000) : oc.call 26 [.iol 2 (ets true l), .int .i64 k] = some (.int .i64 (k + (cn_Ets l : Nat)), [.lst true 2 (ets true (mk_Ets k l))]) := by
  refine fun_s rfl cd26 rfl rfl rfl (by simp; rfl) (by simp; rfl) ?_
  refine wa_ (wc_region (w_ (a_ (h := wo_nil (e_ (h := aft_normal (wa_ (wa_ (wc_region (w_ (a_ (h := wo_nil (e_ (h := aft_normal (wc_block (?_))))))))))))))))
  refine wc_loop (l_mk_Ets k l hk hb (0, l) (by simp) _ (by simp [normE, cn_Ets])) ?_
  refine blk_exit (aft_normal (wa_ (wc_region (w_ (m_ (h := w_ (a_ (h := wo_nil (e_ (h := aft_normal (wc_ret (?_))))))))))))
  all_goals (refine fin_ (hr := (res_tmp rfl res_nil)) (h := ?_); (focus (first | (simp_all; done) | (simp_all <;> omega) | (simp_all <;> split <;> simp_all <;> omega))))
theorem l_held_Ets (k : Int) (l : List Et) (hk : 0 ≤ k) (hb : k + (cn_Ets l : Nat) < 1000000000000000000) : ∀ i : Nat, (i ≤ l.length) → ∀ s, normE 2 (some [0, 1, 5]) s = ⟨[(0, .lst false 0 (ets false (mk_Ets k l))), (1, .int .i64 (k + (cn_Ets (l.take i) : Nat))), (5, .int .i64 i)], [], 2⟩ →
    oc.loop 123 2 s = some (.exit 0, ⟨[(1, .int .i64 (k + (cn_Ets l : Nat)))], [], 2⟩) := by
  refine loop_ind (σ := Nat) (fun i => l.length - i) _ (fun i => ⟨[(0, .lst false 0 (ets false (mk_Ets k l))), (1, .int .i64 (k + (cn_Ets (l.take i) : Nat))), (5, .int .i64 i)], [], 2⟩) _ ?_
  intro i hi ih s hs
  refine loop_s cd123 rfl rfl hs ?_
  have hlen := cn_Ets_len (l := l)
  refine wa_ (wa_ (wc_region (w_ (m_ (h := w_ (m_ (h := w_ (le (h := w_ (b_ (h := wo_nil (e_ (h := aft_normal (?_))))))))))))))
  refine c_ (h1 := ?_) (h2 := ?_)
  rotate_right 1
  focus
   intro c1
   first
   | exact dn c1
   | (have d1 := c1; try simp at d1
      obtain rfl : i = l.length := (by omega)
      refine wc_exit (?_)
      )
  rotate_right 1
  focus
   intro c1
   first
   | exact dn c1
   | (have d1 := c1; try simp at d1
      have hc1 : i < l.length := (by simpa using d1); have hw := wrap_succ (i := i) (by omega); obtain ⟨y, hx, _, _⟩ := ets_cut (t := false) (l := l) (i := i) hc1; have g2 : (ets false (mk_Ets k l))[i]? = some (Et.v false (mk_Et (k + (cn_Ets (l.take i) : Nat)) y)) := (by simp [ets, mk_Ets_at hx]); have hcut := wS_cut (f := cn_Et) hx; have hle := wS_take (f := cn_Et) (l := l) (i := i + 1); have hcy : cn_Et y = y.row.length + 1 := rfl; change cn_Ets (l.take (i + 1)) = cn_Ets (l.take i) + cn_Et y at hcut; change cn_Ets (l.take (i + 1)) ≤ cn_Ets l at hle; have hw1 : IntKind.i64.wrap (k + (cn_Ets (l.take i) : Nat) + (y.row.length : Nat) + 1) = k + ((cn_Ets (l.take (i + 1)) : Nat) : Int) := (by rw [hcut]; exact (wrap_id (by omega) (by omega)).trans (by omega))
      refine wc_skip (?_)
      )
  all_goals first
  | refine aft_exit ?_
  | (refine aft_normal ?_
     refine wa_ (wc_block (wa_ (wc_region (w_ (m_ (h := w_ (m_ (h := w_ (x_ (h := w_ (f_ (h := w_ (l_ (h := w_ (m_ (h := w_ (ca (hc := (by (try simp only [hw1]); exact held_I (k + (cn_Ets (l.take i) : Nat)) y.row.length (by omega) (by omega))) (h := w_ (a_ (h := ?_))))))))))))))))))))
     refine wo_nil (e_ (h := aft_normal (wa_ (wa_ (wc_region (w_ (m_ (h := w_ (b_ (h := wo_nil (e_ (h := aft_normal (?_)))))))))))))
     refine c_ (h1 := ?_) (h2 := ?_)
     rotate_right 1
     focus
      intro c2
      first
      | exact dn c2
      | (have d2 := c2; try simp at d2
         refine wc_skip (?_)
         )
     rotate_right 1
     focus
      intro c2
      first
      | exact dn c2
      | (have d2 := c2; try simp at d2
         refine wa_ (wc_region (w_ (a_ (h := wo_nil (e_ (h := aft_normal (wc_ret (?_))))))))
         )
     all_goals first
     | refine aft_ret ?_
     | (refine aft_normal ?_
        refine wa_ (wa_ (wc_region (w_ (m_ (h := w_ (m_ (h := w_ (x_ (h := w_ (f_ (h := w_ (l_ (h := w_ (m_ (h := w_ (bE (h := wo_nil (e_ (h := aft_normal (?_))))))))))))))))))))
        refine c_ (h1 := ?_) (h2 := ?_)
        rotate_right 1
        focus
         intro c3
         first
         | exact dn c3
         | (have d3 := c3; try simp at d3
            refine wc_skip (?_)
            )
        rotate_right 1
        focus
         intro c3
         first
         | exact dn c3
         | (have d3 := c3; try simp at d3
            refine wa_ (wc_region (w_ (a_ (h := wo_nil (e_ (h := aft_normal (wc_ret (?_))))))))
            )
        all_goals first
        | refine aft_ret ?_
        | (refine aft_normal ?_
           refine wc_region (w_ (m_ (h := w_ (b_ (h := w_ (a_ (h := wo_nil (e_ (h := ?_)))))))))
           )
        )
     all_goals first | refine blk_normal ?_ | refine blk_ret ?_
     all_goals first
     | refine aft_ret ?_
     | (refine aft_normal ?_
        refine wc_region (w_ (m_ (h := w_ (b_ (h := w_ (a_ (h := wo_nil (e_ (h := ?_)))))))))
        )
     )
  all_goals first
  | (refine (ih (i + 1) (by omega) ?_ _ ?_).trans ?_; (focus (first | omega | (simp; done) | (simp; omega))); (focus (simp [normE, hw, hw1]; done)); (focus (rfl)))
  | (apply end_leaf (ex := (Ext.exit 0)) 2 (some [1, 4]); (focus (simp [normE]; rfl)); (focus (simp)))
  | (apply end_leaf (ex := Ext.ret) 2 (some [1, 4]); (focus (simp [normE]; rfl)); (focus (exfalso; omega)))
theorem held_Ets (k : Int) (l : List Et) (hk : 0 ≤ k) (hb : k + (cn_Ets l : Nat) < 1000000000000000000) : oc.call 123 [.lst false 0 (ets false (mk_Ets k l)), .int .i64 k] = some (.int .i64 (k + (cn_Ets l : Nat)), []) := by
  refine fun_s rfl cd123 rfl rfl rfl (by simp; rfl) (by simp; rfl) ?_
  refine wa_ (wc_region (w_ (a_ (h := wo_nil (e_ (h := aft_normal (wa_ (wa_ (wc_region (w_ (a_ (h := wo_nil (e_ (h := aft_normal (wc_block (?_))))))))))))))))
  refine wc_loop (l_held_Ets k l hk hb 0 (by omega) _ (by simp [normE, cn_Ets])) ?_
  first | refine blk_ret ?_ | refine blk_exit ?_
  all_goals first
  | refine aft_ret ?_
  | (refine aft_normal ?_
     refine wa_ (wc_region (w_ (m_ (h := w_ (a_ (h := wo_nil (e_ (h := aft_normal (wc_ret (?_))))))))))
     )
  all_goals (refine fin_ (hr := (res_tmp rfl res_nil)) (h := ?_); (focus (first | (simp_all; done) | (simp_all <;> omega) | (simp_all <;> split <;> simp_all <;> omega))))
end Go.Proofs.Ytmednhpmcplplaa.Ev
