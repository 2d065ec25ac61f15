/- Part 6 of the proof that the law named in the last part returns true at every argument: an evaluator of the program, shown sound, and its runs. No further conditions. -/
import Derived.Test.YtmednhpmcplplaaML1505
namespace Go.Proofs.Ytmednhpmcplplaa.Ev
open Go
set_option maxRecDepth 100000
set_option linter.unusedSimpArgs false
set_option linter.unusedVariables false
set_option maxHeartbeats 2000000
def etss (t : Bool) (l : List (List Et)) : List V := l.map fun x => .lst t (lz t 2) (ets t x)
@[simp] theorem etss_len (t : Bool) (l : List (List Et)) : (etss t l).length = l.length := by simp [etss]
@[simp] theorem etss_nil (t : Bool) : etss t [] = [] := rfl
@[simp] theorem etss_cons (t : Bool) (x : List Et) (l : List (List Et)) : etss t (x :: l) = .lst t (lz t 2) (ets t x) :: etss t l := rfl
@[simp] theorem etss_join (t : Bool) (l m : List (List Et)) : etss t l ++ etss t m = etss t (l ++ m) := by simp [etss]
@[simp] theorem etss_snocT (l : List (List Et)) (x : List Et) : etss true l ++ [.lst true 2 (ets true x)] = etss true (l ++ [x]) := by simp [etss]
@[simp] theorem etss_snocF (l : List (List Et)) (x : List Et) : etss false l ++ [.lst false 0 (ets false x)] = etss false (l ++ [x]) := by simp [etss]
@[simp] theorem etss_setT (l : List (List Et)) (i : Nat) (x : List Et) : (etss true l).set i (.lst true 2 (ets true x)) = etss true (l.set i x) := by simp [etss, List.map_set]
@[simp] theorem etss_setF (l : List (List Et)) (i : Nat) (x : List Et) : (etss false l).set i (.lst false 0 (ets false x)) = etss false (l.set i x) := by simp [etss, List.map_set]
theorem etss_zero (m : Nat) : List.replicate m (V.lst true 2 []) = etss true (List.replicate m []) := by simp [etss]
theorem etss_get {t : Bool} {l : List (List Et)} {i : Nat} {x : List Et} (h : l[i]? = some x) : (etss t l)[i]? = some (.lst t (lz t 2) (ets t x)) := by simp [etss, h]
theorem etss_at {t : Bool} {l : List (List Et)} {i : Nat} (h : i < l.length) : (etss t l)[(i : Int).toNat]? = some (.lst t (lz t 2) (ets t l[i])) := etss_get (by simp [h])
theorem etss_cut {t : Bool} {l : List (List Et)} {i : Nat} (h : i < l.length) : ∃ x, l[i]? = some x ∧ l.drop i = x :: l.drop (i + 1) ∧ (etss t l)[(i : Int).toNat]? = some (.lst t (lz t 2) (ets t x)) :=
  ⟨l[i], by simp [h], List.drop_eq_getElem_cons h, etss_at h⟩
@[simp] theorem etss_take (t : Bool) (n : Nat) (l : List (List Et)) : (etss t l).take n = etss t (l.take n) := by simp [etss, List.map_take]
@[simp] theorem etss_drop (t : Bool) (n : Nat) (l : List (List Et)) : (etss t l).drop n = etss t (l.drop n) := by simp [etss, List.map_drop]
@[simp] theorem etss_shareL (t : Bool) (l : List (List Et)) : V.shareL (etss t l) = etss false l := by
  induction l with
  | nil => rfl
  | cons x l ih => simp [V.shareL, ih, lst_share]
@[simp] theorem etss_tidyT (l : List (List Et)) : V.tidyL (etss true l) = true := by
  induction l with
  | nil => rfl
  | cons x l ih => simp [V.tidyL, V.tidy, ih]
theorem alikeL_lss {α β : Type} {f : α → V} {g : β → V} (hf : ∀ x y, (f x).alike (g y) = true) : ∀ {a : List α} {b : List β}, V.alikeL (a.map f) (b.map g) = decide (a.length = b.length)
  | [], [] => rfl
  | [], _ :: _ => by simp [V.alikeL]
  | _ :: _, [] => by simp [V.alikeL]
  | x :: a, y :: b => by simp only [List.map_cons, V.alikeL, hf, Bool.true_and, alikeL_lss hf (a := a) (b := b), List.length_cons, Nat.add_right_cancel_iff]
@[simp] theorem alike_etss (t u : Bool) (a b : List (List Et)) : V.alikeL (etss t a) (etss u b) = decide (a.length = b.length) := alikeL_lss (fun _ _ => rfl)
def frss (t : Bool) (l : List (List Fr)) : List V := l.map fun x => .lst t (lz t 6) (frs t x)
@[simp] theorem frss_len (t : Bool) (l : List (List Fr)) : (frss t l).length = l.length := by simp [frss]
@[simp] theorem frss_nil (t : Bool) : frss t [] = [] := rfl
@[simp] theorem frss_cons (t : Bool) (x : List Fr) (l : List (List Fr)) : frss t (x :: l) = .lst t (lz t 6) (frs t x) :: frss t l := rfl
@[simp] theorem frss_join (t : Bool) (l m : List (List Fr)) : frss t l ++ frss t m = frss t (l ++ m) := by simp [frss]
@[simp] theorem frss_snocT (l : List (List Fr)) (x : List Fr) : frss true l ++ [.lst true 6 (frs true x)] = frss true (l ++ [x]) := by simp [frss]
@[simp] theorem frss_snocF (l : List (List Fr)) (x : List Fr) : frss false l ++ [.lst false 0 (frs false x)] = frss false (l ++ [x]) := by simp [frss]
@[simp] theorem frss_setT (l : List (List Fr)) (i : Nat) (x : List Fr) : (frss true l).set i (.lst true 6 (frs true x)) = frss true (l.set i x) := by simp [frss, List.map_set]
@[simp] theorem frss_setF (l : List (List Fr)) (i : Nat) (x : List Fr) : (frss false l).set i (.lst false 0 (frs false x)) = frss false (l.set i x) := by simp [frss, List.map_set]
theorem frss_zero (m : Nat) : List.replicate m (V.lst true 6 []) = frss true (List.replicate m []) := by simp [frss]
theorem frss_get {t : Bool} {l : List (List Fr)} {i : Nat} {x : List Fr} (h : l[i]? = some x) : (frss t l)[i]? = some (.lst t (lz t 6) (frs t x)) := by simp [frss, h]
theorem frss_at {t : Bool} {l : List (List Fr)} {i : Nat} (h : i < l.length) : (frss t l)[(i : Int).toNat]? = some (.lst t (lz t 6) (frs t l[i])) := frss_get (by simp [h])
theorem frss_cut {t : Bool} {l : List (List Fr)} {i : Nat} (h : i < l.length) : ∃ x, l[i]? = some x ∧ l.drop i = x :: l.drop (i + 1) ∧ (frss t l)[(i : Int).toNat]? = some (.lst t (lz t 6) (frs t x)) :=
  ⟨l[i], by simp [h], List.drop_eq_getElem_cons h, frss_at h⟩
@[simp] theorem frss_take (t : Bool) (n : Nat) (l : List (List Fr)) : (frss t l).take n = frss t (l.take n) := by simp [frss, List.map_take]
@[simp] theorem frss_drop (t : Bool) (n : Nat) (l : List (List Fr)) : (frss t l).drop n = frss t (l.drop n) := by simp [frss, List.map_drop]
@[simp] theorem frss_shareL (t : Bool) (l : List (List Fr)) : V.shareL (frss t l) = frss false l := by
  induction l with
  | nil => rfl
  | cons x l ih => simp [V.shareL, ih, lst_share]
@[simp] theorem frss_tidyT (l : List (List Fr)) : V.tidyL (frss true l) = true := by
  induction l with
  | nil => rfl
  | cons x l ih => simp [V.tidyL, V.tidy, ih]
@[simp] theorem alike_frss (t u : Bool) (a b : List (List Fr)) : V.alikeL (frss t a) (frss u b) = decide (a.length = b.length) := alikeL_lss (fun _ _ => rfl)
end Go.Proofs.Ytmednhpmcplplaa.Ev
namespace Go.Proofs.Ytmednhpmcplplaa.Ev
open Go
set_option maxRecDepth 100000
set_option linter.unusedSimpArgs false
set_option linter.unusedVariables false
set_option maxHeartbeats 2000000
def cn_Etss (l : List (List Et)) : Nat := wS cn_Ets l
def mk_Etss (k : Int) : List (List Et) → List (List Et)
  | [] => []
  | x :: r => mk_Ets k x :: mk_Etss (k + (cn_Ets x : Nat)) r
@[simp] theorem mk_Etss_len {k : Int} {l : List (List Et)} : (mk_Etss k l).length = l.length := by
  induction l generalizing k with
  | nil => rfl
  | cons x r ih => simp [mk_Etss, ih]
@[simp] theorem mk_Etss_take {k : Int} {l : List (List Et)} : (mk_Etss k l).take l.length = mk_Etss k l := List.take_of_length_le (by simp)
theorem mk_Etss_at {k : Int} {l : List (List Et)} {i : Nat} {x : List Et} (h : l[i]? = some x) : (mk_Etss k l)[i]? = some (mk_Ets (k + (cn_Etss (l.take i) : Nat)) x) := by
  induction l generalizing k i with
  | nil => simp at h
  | cons y r ih =>
    cases i with
    | zero => simp at h; subst h; simp [mk_Etss, cn_Etss]
    | succ i => simp at h; simp only [mk_Etss, List.getElem?_cons_succ, ih h, List.take_succ_cons, cn_Etss, wS_cons]; congr 2; push_cast; omega
theorem l_mk_Etss (k : Int) (l : List (List Et)) (hk : 0 ≤ k) (hl : l.length < 2000000) (hb : k + (cn_Etss l : Nat) < 1000000000000000000) : ∀ x : Nat × (List (List Et)), (x.1 ≤ l.length ∧ x.2.length = l.length ∧ x.2.take x.1 = (mk_Etss k l).take x.1 ∧ x.2.drop x.1 = l.drop x.1) → ∀ s, normE 2 (some [0, 1, 5]) s = ⟨[(0, .ref 0 0 l.length), (1, .int .i64 (k + (cn_Etss (l.take x.1) : Nat))), (5, .int .i64 x.1)], [(0, ⟨false, true, 1, etss true x.2, 0⟩)], 2⟩ →
    oc.loop 57 2 s = some (.exit 0, ⟨[(1, .int .i64 (k + (cn_Etss l : Nat)))], [(0, ⟨false, true, 1, etss true (mk_Etss k l), 0⟩)], 2⟩) := by
  refine loop_ind (σ := Nat × (List (List Et))) (fun x => l.length - x.1) _ (fun x => ⟨[(0, .ref 0 0 l.length), (1, .int .i64 (k + (cn_Etss (l.take x.1) : Nat))), (5, .int .i64 x.1)], [(0, ⟨false, true, 1, etss true x.2, 0⟩)], 2⟩) _ ?_
  rintro ⟨i, r⟩ hi ih s hs
  simp only at hi
  refine loop_s cd57 rfl rfl hs ?_
  obtain ⟨hi1, hi2, hi3, hi4⟩ := hi
  refine wa_ (wa_ (wc_region (w_ (m_ (h := w_ (m_ (h := w_ (le (h := w_ (b_ (h := wo_nil (e_ (h := aft_normal (?_))))))))))))))
  refine c_ (h1 := ?_) (h2 := ?_)
  rotate_right 1
  focus
   intro c1
   simp at c1; obtain rfl : i = l.length := (by omega); obtain rfl : r = mk_Etss k l := (by rw [List.take_of_length_le (by omega), List.take_of_length_le (by simp)] at hi3; exact hi3)
   refine wc_exit (?_)
  rotate_right 1
  focus
   intro c1
   simp at c1; have hw := wrap_succ (i := i) (by omega); obtain ⟨y, hx, _, _⟩ := etss_cut (t := false) (l := l) (i := i) c1; have hy : r[i]? = some y := (by have := congrArg (fun q => q[0]?) hi4; simpa [hx] using this); have g2 : (etss true r)[i]? = some (.lst true 2 (ets true y)) := (by simp [etss, hy]); have hcut := wS_cut (f := cn_Ets) hx; have hle := wS_take (f := cn_Ets) (l := l) (i := i + 1); change cn_Etss (l.take (i + 1)) = cn_Etss (l.take i) + cn_Ets y at hcut; change cn_Etss (l.take (i + 1)) ≤ cn_Etss l at hle; have hw1 : k + (cn_Etss (l.take i) : Nat) + (cn_Ets y : Nat) = k + ((cn_Etss (l.take (i + 1)) : Nat) : Int) := (by rw [hcut]; omega)
   refine wc_skip (?_)
  all_goals first
  | refine aft_exit ?_
  | (refine aft_normal ?_
     refine wa_ (wc_block (wc_region (w_ (m_ (h := w_ (m_ (h := w_ (x_ (h := w_ (l_ (h := w_ (m_ (h := ?_)))))))))))))
     first | refine ip (hc := mkf_Ets (k + (cn_Etss (l.take i) : Nat)) y (by omega) (by omega)) (h := ?_) | refine iq (hc := mkf_Ets (k + (cn_Etss (l.take i) : Nat)) y (by omega) (by omega)) (h := ?_)
     refine w_ (a_ (h := wo_nil (e_ (h := blk_normal (aft_normal (wc_region (w_ (m_ (h := w_ (b_ (h := w_ (a_ (h := wo_nil (e_ (h := ?_)))))))))))))))
     )
  all_goals first
  | (refine (ih ((i + 1, r.set i (mk_Ets (k + (cn_Etss (l.take i) : Nat)) y))) (⟨by simp; omega, by simpa using hi2, set_take hi3 (by simpa using hi2) (mk_Etss_at hx), set_drop hi4⟩) ?_ _ ?_).trans ?_; (focus (first | omega | (simp; done) | (simp; omega))); (focus (simp [normE, hw, hw1]; done)); (focus (rfl)))
  | (apply end_leaf (ex := (Ext.exit 0)) 2 (some [1]); (focus (simp [normE]; rfl)); (focus (simp)))
theorem mkf_Etss (k : Int) (l : List (List Et)) (hk : 0 ≤ k) (hl : l.length < 2000000) (hb : k + (cn_Etss l : Nat) < 1000000000000000000) : oc.call 57 [.iol 1 (etss true l), .int .i64 k] = some (.int .i64 (k + (cn_Etss l : Nat)), [.lst true 1 (etss true (mk_Etss k l))]) := by
  refine fun_s rfl cd57 rfl rfl rfl (by simp; rfl) (by simp; rfl) ?_
  refine wa_ (wc_region (w_ (a_ (h := wo_nil (e_ (h := aft_normal (wa_ (wa_ (wc_region (w_ (a_ (h := wo_nil (e_ (h := aft_normal (wc_block (?_))))))))))))))))
  refine wc_loop (l_mk_Etss k l hk hl hb (0, l) (by simp) _ (by simp [normE, cn_Etss])) ?_
  refine blk_exit (aft_normal (wa_ (wc_region (w_ (m_ (h := w_ (a_ (h := wo_nil (e_ (h := aft_normal (wc_ret (?_))))))))))))
  all_goals (refine fin_ (hr := (res_tmp rfl res_nil)) (h := ?_); (focus (first | (simp_all; done) | (simp_all <;> omega) | (simp_all <;> split <;> simp_all <;> omega))))
theorem l_held_Etss (k : Int) (l : List (List Et)) (hk : 0 ≤ k) (hl : l.length < 2000000) (hb : k + (cn_Etss l : Nat) < 1000000000000000000) : ∀ i : Nat, (i ≤ l.length) → ∀ s, normE 2 (some [0, 1, 5]) s = ⟨[(0, .lst false 0 (etss false (mk_Etss k l))), (1, .int .i64 (k + (cn_Etss (l.take i) : Nat))), (5, .int .i64 i)], [], 2⟩ →
    oc.loop 89 2 s = some (.exit 0, ⟨[(1, .int .i64 (k + (cn_Etss l : Nat)))], [], 2⟩) := by
  refine loop_ind (σ := Nat) (fun i => l.length - i) _ (fun i => ⟨[(0, .lst false 0 (etss false (mk_Etss k l))), (1, .int .i64 (k + (cn_Etss (l.take i) : Nat))), (5, .int .i64 i)], [], 2⟩) _ ?_
  intro i hi ih s hs
  refine loop_s cd89 rfl rfl hs ?_
  refine wa_ (wa_ (wc_region (w_ (m_ (h := w_ (m_ (h := w_ (le (h := w_ (b_ (h := wo_nil (e_ (h := aft_normal (?_))))))))))))))
  refine c_ (h1 := ?_) (h2 := ?_)
  rotate_right 1
  focus
   intro c1
   first
   | exact dn c1
   | (have d1 := c1; try simp at d1
      obtain rfl : i = l.length := (by omega)
      refine wc_exit (?_)
      )
  rotate_right 1
  focus
   intro c1
   first
   | exact dn c1
   | (have d1 := c1; try simp at d1
      have hc1 : i < l.length := (by simpa using d1); have hw := wrap_succ (i := i) (by omega); obtain ⟨y, hx, _, _⟩ := etss_cut (t := false) (l := l) (i := i) hc1; have g2 : (etss false (mk_Etss k l))[i]? = some (.lst false 0 (ets false (mk_Ets (k + (cn_Etss (l.take i) : Nat)) y))) := (by simp [etss, mk_Etss_at hx]); have hcut := wS_cut (f := cn_Ets) hx; have hle := wS_take (f := cn_Ets) (l := l) (i := i + 1); change cn_Etss (l.take (i + 1)) = cn_Etss (l.take i) + cn_Ets y at hcut; change cn_Etss (l.take (i + 1)) ≤ cn_Etss l at hle; have hw1 : k + (cn_Etss (l.take i) : Nat) + (cn_Ets y : Nat) = k + ((cn_Etss (l.take (i + 1)) : Nat) : Int) := (by rw [hcut]; omega)
      refine wc_skip (?_)
      )
  all_goals first
  | refine aft_exit ?_
  | (refine aft_normal ?_
     refine wa_ (wc_block (wa_ (wc_region (w_ (m_ (h := w_ (m_ (h := w_ (x_ (h := w_ (l_ (h := w_ (m_ (h := w_ (ca (hc := held_Ets (k + (cn_Etss (l.take i) : Nat)) y (by omega) (by omega)) (h := w_ (a_ (h := wo_nil (e_ (h := ?_))))))))))))))))))))
     refine aft_normal (wa_ (wc_region (w_ (m_ (h := w_ (b_ (h := wo_nil (e_ (h := aft_normal (?_))))))))))
     refine c_ (h1 := ?_) (h2 := ?_)
     rotate_right 1
     focus
      intro c2
      first
      | exact dn c2
      | (have d2 := c2; try simp at d2
         refine wc_skip (?_)
         )
     rotate_right 1
     focus
      intro c2
      first
      | exact dn c2
      | (have d2 := c2; try simp at d2
         refine wa_ (wc_region (w_ (a_ (h := wo_nil (e_ (h := aft_normal (wc_ret (?_))))))))
         )
     all_goals first | refine blk_normal ?_ | refine blk_ret ?_
     all_goals first
     | refine aft_ret ?_
     | (refine aft_normal ?_
        refine wc_region (w_ (m_ (h := w_ (b_ (h := w_ (a_ (h := wo_nil (e_ (h := ?_)))))))))
        )
     )
  all_goals first
  | (refine (ih (i + 1) (by omega) ?_ _ ?_).trans ?_; (focus (first | omega | (simp; done) | (simp; omega))); (focus (simp [normE, hw, hw1]; done)); (focus (rfl)))
  | (apply end_leaf (ex := (Ext.exit 0)) 2 (some [1, 4]); (focus (simp [normE]; rfl)); (focus (simp)))
  | (apply end_leaf (ex := Ext.ret) 2 (some [1, 4]); (focus (simp [normE]; rfl)); (focus (exfalso; clear ih hs hw; omega)))
theorem held_Etss (k : Int) (l : List (List Et)) (hk : 0 ≤ k) (hl : l.length < 2000000) (hb : k + (cn_Etss l : Nat) < 1000000000000000000) : oc.call 89 [.lst false 0 (etss false (mk_Etss k l)), .int .i64 k] = some (.int .i64 (k + (cn_Etss l : Nat)), []) := by
  refine fun_s rfl cd89 rfl rfl rfl (by simp; rfl) (by simp; rfl) ?_
  refine wa_ (wc_region (w_ (a_ (h := wo_nil (e_ (h := aft_normal (wa_ (wa_ (wc_region (w_ (a_ (h := wo_nil (e_ (h := aft_normal (wc_block (?_))))))))))))))))
  refine wc_loop (l_held_Etss k l hk hl hb 0 (by omega) _ (by simp [normE, cn_Etss])) ?_
  first | refine blk_ret ?_ | refine blk_exit ?_
  all_goals first
  | refine aft_ret ?_
  | (refine aft_normal ?_
     refine wa_ (wc_region (w_ (m_ (h := w_ (a_ (h := wo_nil (e_ (h := aft_normal (wc_ret (?_))))))))))
     )
  all_goals (refine fin_ (hr := (res_tmp rfl res_nil)) (h := ?_); (focus (first | (simp_all; done) | (simp_all <;> omega) | (simp_all <;> split <;> simp_all <;> omega))))
def wEs (l : List (List Et)) : Prop := l.length < 2000000 ∧ ∀ x ∈ l, w_Ets x < 2000000
theorem l_eq_Etss (l m : List (List Et)) (h : wEs l) (h2 : wEs m) (hlm : l.length = m.length) : ∀ i : Nat, (i ≤ l.length) → ∀ s, normE 2 (some [0, 1, 5]) s = ⟨[(0, .lst false 0 (etss false l)), (1, .lst false 0 (etss false m)), (5, .int .i64 i)], [], 2⟩ →
    oc.loop 56 4 s = some (if l.drop i = m.drop i then (.exit 0, ⟨[], [], 2⟩) else (.ret, ⟨[(4, .bool false)], [], 2⟩)) := by
  refine loop_ind (σ := Nat) (fun i => l.length - i) _ (fun i => ⟨[(0, .lst false 0 (etss false l)), (1, .lst false 0 (etss false m)), (5, .int .i64 i)], [], 2⟩) _ ?_
  intro i hi ih s hs
  refine loop_s cd56 rfl rfl hs ?_
  obtain ⟨hl1, hl2⟩ := h
  obtain ⟨hm1, hm2⟩ := h2
  refine wa_ (wa_ (wc_region (w_ (m_ (h := w_ (m_ (h := w_ (le (h := w_ (b_ (h := wo_nil (e_ (h := aft_normal (?_))))))))))))))
  refine c_ (h1 := ?_) (h2 := ?_)
  rotate_right 1
  focus
   intro c1
   simp at c1; have : i = l.length := (by omega); subst this
   refine wc_exit (?_)
  rotate_right 1
  focus
   intro c1
   simp at c1; have hw := wrap_succ (i := i) (by omega); obtain ⟨x, hx, d1, g1⟩ := etss_cut (t := false) c1; obtain ⟨y, hy, d2, g2⟩ := etss_cut (t := false) (l := m) (i := i) (by omega); have m1 := hl2 x (List.mem_of_getElem? hx); have m2 := hm2 y (List.mem_of_getElem? hy)
   refine wc_skip (?_)
  all_goals first
  | refine aft_exit ?_
  | (refine aft_normal ?_
     refine wa_ (wc_block (wa_ (wc_draw (y_ (m_ (h := ax_ (h := y_ (m_ (h := ax_ (h := y_ (x_ (h := ax_ (h := y_ (l_ (h := ax_ (h := y_ (m_ (h := ax_ (h := y_ (m_ (h := ax_ (h := y_ (x_ (h := ax_ (h := y_ (l_ (h := ax_ (h := ?_))))))))))))))))))))))))))))
     refine y_ (ca (hc := eq_Ets x y m1 m2) (h := ax_ (h := y_ (u_ (h := ax_ (h := wo_nil (ed (h := aft_normal (?_)))))))))
     refine c_ (h1 := ?_) (h2 := ?_)
     rotate_right 1
     focus
      intro c2
      refine wc_skip (?_)
     rotate_right 1
     focus
      intro c2
      refine wa_ (wc_region (w_ (a_ (h := wo_nil (e_ (h := aft_normal (wc_ret (?_))))))))
     all_goals first | refine blk_normal ?_ | refine blk_ret ?_
     all_goals first
     | refine aft_ret ?_
     | (refine aft_normal ?_
        refine wc_region (w_ (m_ (h := w_ (b_ (h := w_ (a_ (h := wo_nil (e_ (h := ?_)))))))))
        )
     )
  all_goals first
  | (refine (ih (i + 1) (by omega) ?_ _ ?_).trans ?_; (focus (first | omega | (simp; done) | (simp; omega))); (focus (simp [normE, hw]; done)); (focus (simp at c2; rw [d1, d2]; simp [c2])))
  | (apply end_leaf (ex := Ext.ret) 2 (some [4]); (focus (simp [normE]; rfl)); (focus (simp at c2; rw [d1, d2]; simp [c2])))
  | (apply end_leaf (ex := (Ext.exit 0)) 2 (some [4]); (focus (simp [normE]; rfl)); (focus (rw [if_pos (by simp [hlm])])))
theorem eq_Etss (l m : List (List Et)) (h : wEs l) (h2 : wEs m) : oc.call 56 [.lst false 0 (etss false l), .lst false 0 (etss false m)] = some (.bool (decide (l = m)), []) := by
  refine fun_s rfl cd56 rfl rfl rfl (by simp; rfl) (by simp; rfl) ?_
  have hl1 := h.1
  have hm1 := h2.1
  refine wa_ (wc_region (w_ (a_ (h := wo_nil (e_ (h := aft_normal (wa_ (wa_ (wc_region (w_ (m_ (h := w_ (le (h := w_ (m_ (h := w_ (le (h := ?_))))))))))))))))))
  refine w_ (bE (h := wo_nil (e_ (h := aft_normal (?_)))))
  refine c_ (h1 := ?_) (h2 := ?_)
  rotate_right 1
  focus
   intro c1
   simp at c1
   refine wc_skip (?_)
  rotate_right 1
  focus
   intro c1
   simp at c1; have hne : l ≠ m := (by rintro rfl; exact c1 rfl)
   refine wa_ (wc_region (w_ (a_ (h := wo_nil (e_ (h := aft_normal (wc_ret (?_))))))))
  all_goals first
  | refine aft_ret ?_
  | (refine aft_normal ?_
     refine wa_ (wa_ (wc_region (w_ (a_ (h := wo_nil (e_ (h := aft_normal (wc_block (?_)))))))))
     refine wc_loopI (l_eq_Etss l m h h2 (by omega) 0 (by omega) _ (by simp [normE])) ?_ ?_
     rotate_right 1
     focus
      intro c2
      skip
     rotate_right 1
     focus
      intro c2
      skip
     all_goals first | refine blk_ret ?_ | refine blk_exit ?_
     all_goals first
     | refine aft_ret ?_
     | (refine aft_normal ?_
        refine wa_ (wc_region (w_ (a_ (h := wo_nil (e_ (h := aft_normal (wc_ret (?_))))))))
        )
     )
  all_goals (refine fin_ (hr := (res_tmp rfl res_nil)) (h := ?_); (focus (first | (simp_all; done) | (simp_all <;> omega) | (simp_all <;> split <;> simp_all <;> omega))))
end Go.Proofs.Ytmednhpmcplplaa.Ev
namespace Go.Proofs.Ytmednhpmcplplaa.Ev
open Go
set_option maxRecDepth 100000
set_option linter.unusedSimpArgs false
set_option linter.unusedVariables false
set_option maxHeartbeats 2000000
theorem cellsAll_map {α : Type} {f : α → V} {k : Nat} (h : ∀ x, (f x).cells = k) : ∀ l : List α, V.cellsAll k (l.map f) = true
  | [] => rfl
  | x :: l => by simp only [List.map_cons, V.cellsAll, List.all_cons, h, decide_true, Bool.true_and]; exact cellsAll_map h l
@[simp] theorem cellsAll_ints (l : List Int) : V.cellsAll 1 (ints l) = true := cellsAll_map (f := .int .i64) (fun _ => rfl) l
@[simp] theorem cellsAll_ets (t : Bool) (l : List Et) : V.cellsAll 2 (ets t l) = true := cellsAll_map (f := Et.v t) (fun _ => rfl) l
@[simp] theorem cellsAll_cts (l : List Ct) : V.cellsAll 3 (cts l) = true := cellsAll_map (f := Ct.v) (fun _ => rfl) l
@[simp] theorem cellsAll_frs (t : Bool) (l : List Fr) : V.cellsAll 6 (frs t l) = true := cellsAll_map (f := Fr.v t) (fun _ => rfl) l
@[simp] theorem cellsAll_nds (t : Bool) (s : Nat) (l : List Nd) : V.cellsAll 7 (nds t s l) = true := cellsAll_map (f := fun d : Nd => d.v t s) (fun _ => rfl) l
theorem c1_I (l : List Int) (hl : l.length < 2000000) (h : l ≠ []) : runE oc cf 143 [.lst false 0 (ints l)] = some (.lst true 1 (ints l), []) := by
  refine run_s cd143 rfl rfl rfl (by first | (simp; rfl) | rfl) (by first | (simp; rfl) | rfl) ?_
  have hne : ints l ≠ [] := by simpa [ints] using h
  refine wa_ (wc_region (w_ (aN (h := wo_nil (e_ (h := aft_normal (wa_ (wa_ (wc_region (w_ (m_ (h := w_ (bN (h := wo_nil (e_ (h := aft_normal (?_)))))))))))))))))
  refine c_ (h1 := ?_) (h2 := ?_)
  rotate_right 1
  focus
   intro c1
   refine wc_skip (?_)
  rotate_right 1
  focus
   intro c1
   refine wa_ (wc_region (w_ (aN (h := wo_nil (e_ (h := aft_normal (wc_ret (?_))))))))
  all_goals first
  | refine aft_ret ?_
  | (refine aft_normal ?_
     refine wa_ (wc_region (w_ (bs (h := w_ (m_ (h := w_ (ap (h := w_ (a_ (h := wo_nil (e_ (h := aft_normal (wc_ret (?_))))))))))))))
     )
  all_goals (refine fin_ (hr := (res_tmp rfl res_nil)) (h := ?_); (focus (first | (simp_all; done) | (simp_all <;> omega) | (simp_all <;> split <;> simp_all <;> omega))))
theorem c2_I  : runE oc cf 143 [.emp true] = some (.lst true 1 [], []) := by
  refine run_s cd143 rfl rfl rfl (by first | (simp; rfl) | rfl) (by first | (simp; rfl) | rfl) ?_
  refine wa_ (wc_region (w_ (aN (h := wo_nil (e_ (h := aft_normal (wa_ (wa_ (wc_region (w_ (m_ (h := w_ (bN (h := wo_nil (e_ (h := aft_normal (?_)))))))))))))))))
  refine c_ (h1 := ?_) (h2 := ?_)
  rotate_right 1
  focus
   intro c1
   first
   | exact dn c1
   | (have d1 := c1; try simp at d1
      refine wc_skip (?_)
      )
  rotate_right 1
  focus
   intro c1
   first
   | exact dn c1
   | (have d1 := c1; try simp at d1
      refine wa_ (wc_region (w_ (aN (h := wo_nil (e_ (h := aft_normal (wc_ret (?_))))))))
      )
  all_goals first
  | refine aft_ret ?_
  | (refine aft_normal ?_
     refine wa_ (wc_region (w_ (bs (h := w_ (m_ (h := w_ (ap (h := w_ (a_ (h := wo_nil (e_ (h := aft_normal (wc_ret (?_))))))))))))))
     )
  all_goals (refine fin_ (hr := (res_tmp rfl res_nil)) (h := ?_); (focus (first | (simp_all; done) | (simp_all <;> omega) | (simp_all <;> split <;> simp_all <;> omega))))
theorem c3_I  : runE oc cf 143 [.emp false] = some (.lst true 1 [], []) := by
  refine run_s cd143 rfl rfl rfl (by first | (simp; rfl) | rfl) (by first | (simp; rfl) | rfl) ?_
  refine wa_ (wc_region (w_ (aN (h := wo_nil (e_ (h := aft_normal (wa_ (wa_ (wc_region (w_ (m_ (h := w_ (bN (h := wo_nil (e_ (h := aft_normal (?_)))))))))))))))))
  refine c_ (h1 := ?_) (h2 := ?_)
  rotate_right 1
  focus
   intro c1
   first
   | exact dn c1
   | (have d1 := c1; try simp at d1
      refine wc_skip (?_)
      )
  rotate_right 1
  focus
   intro c1
   first
   | exact dn c1
   | (have d1 := c1; try simp at d1
      refine wa_ (wc_region (w_ (aN (h := wo_nil (e_ (h := aft_normal (wc_ret (?_))))))))
      )
  all_goals first
  | refine aft_ret ?_
  | (refine aft_normal ?_
     refine wa_ (wc_region (w_ (bs (h := w_ (m_ (h := w_ (?_)))))))
     refine ap (hlen := by decide) (h := ?_)
     refine w_ (a_ (h := wo_nil (e_ (h := aft_normal (wc_ret (?_))))))
     )
  all_goals (refine fin_ (hr := (res_tmp rfl res_nil)) (h := ?_); (focus (first | (simp_all; done) | (simp_all <;> omega) | (simp_all <;> split <;> simp_all <;> omega))))
theorem e_cloneI (l : List Int) (hl : l.length < 2000000) : oc.call 143 [.lst false 0 (ints l)] = some (.lst true 1 (ints l), []) :=
  nil_s rfl (fun h => c1_I l hl (by rintro rfl; exact h rfl)) (fun h => by have : l = [] := (by simpa [ints] using h); subst this; exact c2_I) (fun h => by have : l = [] := (by simpa [ints] using h); subst this; exact c3_I)
end Go.Proofs.Ytmednhpmcplplaa.Ev
namespace Go.Proofs.Ytmednhpmcplplaa.Ev
open Go
set_option maxRecDepth 100000
set_option linter.unusedSimpArgs false
set_option linter.unusedVariables false
set_option maxHeartbeats 2000000
section
variable {call : Call} {id base : Nat} {e : List (Nat × V)} {o : List (Nat × Ob)} {n : Nat} {t : TypeId} {K : V → List (Nat × Ob) → Prop}
theorem apP {args : Array Operand} {ts : Array TypeId} {t1 t2 e1 e2 : TypeId} {y z : V} {ys ws bs : List V} {r1 : Option (List V × St)} {sz : Nat} {o1 : List (Nat × Ob)} {id' q j ver m m2 : Nat} {fs : List Nat} {ob : Ob} {x xu : V} (hx : opsV e args.toList = some [.plc q j fs ver m, y] := by exact rfl) (h1 : ts[0]? = some t1 := by exact rfl) (h2 : ts[1]? = some t2 := by exact rfl) (he1 : cf.elem t1 = some e1 := by exact tys_ok.elem _ _ rfl) (hz : cf.zero e1 = some z := by exact tys_ok.zero _ _ rfl) (he2 : cf.elem t2 = some e2 := by exact tys_ok.elem _ _ rfl)
    (hel : St.elems ⟨[], o, n⟩ base y = r1 := by (simp; rfl)) (hel2 : r1 = some (ys, ⟨[], o1, n⟩) := by rfl) (ho : geta o1 q = some ob := by exact rfl) (hv : ob.ver = ver := by rfl) (hg : ob.xs[j]? = some x := by first | assumption | exact set_at (by assumption)) (hgf : getF x fs = some (.lst true sz bs) := by exact rfl) (hl : bs.length = m := by first | rfl | simp) (hsu : setF x fs .und = some xu := by exact rfl)
    (hid : id = id' := by ((try simp); rfl)) (hsz : sz = z.cells := by rfl) (hc : V.cellsAll z.cells ys = true := by (simp [*]; try rfl)) (hw : bs ++ ys = ws := by ((try simp); rfl)) (hm : ws.length = m2 := by ((try simp); rfl)) (hlen : m2 < maxV := by (simp <;> omega))
    (h : K (.ref id' 0 m2) ((id', ⟨false, false, z.cells, ws, 0⟩) :: (q, ⟨ob.bx, ob.fx, ob.sz, ob.xs.set j xu, ver + 1⟩) :: o1)) : opK call cf id base e o n t (.call ⟨.builtin .append, args, ts⟩) K := by
  subst hl hv
  have hget : ob.get j fs = some (.lst true sz bs) := by simp only [Ob.get, hg, hgf]
  have hset : ob.set j fs .und = some { ob with xs := ob.xs.set j xu } := by simp only [Ob.set, hg, hsu, mp_some]
  have hat : St.at ⟨[], o1, n⟩ q j fs ob.ver bs.length = some (sz, bs, ob) := by simp only [St.at, ho, hget, if_true]
  have htk : St.take ⟨[], o1, n⟩ q j fs ob.ver bs.length = some (sz, bs, ⟨[], (q, ⟨ob.bx, ob.fx, ob.sz, ob.xs.set j xu, ob.ver + 1⟩) :: o1, n⟩) := by simp only [St.take, hat, hset, mp_some, puta]
  exact k_appendS hx h1 h2 he1 hz he2 hel hel2 htk rfl hid hsz hc hw hm hlen h
end
end Go.Proofs.Ytmednhpmcplplaa.Ev
namespace Go.Proofs.Ytmednhpmcplplaa.Ev
open Go
set_option maxRecDepth 100000
set_option linter.unusedSimpArgs false
set_option linter.unusedVariables false
set_option maxHeartbeats 2000000
def idxE (p : Et → Bool) (i : Nat) : List (Et) → Int
  | [] => -1
  | x :: r => if p x = true then i else idxE p (i + 1) r
theorem idxE_any {p : Et → Bool} : ∀ {l : List (Et)} {i : Nat}, decide (0 ≤ idxE p i l) = l.any p
  | [], i => by simp [idxE]
  | x :: r, i => by
    unfold idxE
    by_cases h : p x = true
    · simp [h]
    · simp only [if_neg h, List.any_cons, idxE_any (l := r) (i := i + 1)]; simp [h]
theorem l_ix_Long (l : List (Et)) (k : Int) (p : Et → Bool) (hl : l.length < 2000000) (hc : ∀ x ∈ l, oc.call 142 [x.v false, .vptr (.int .i64 k)] = some (.bool (p x), [])) : ∀ i : Nat, i ≤ l.length → ∀ s, normE 2 (some [0, 1, 7, 8]) s = ⟨[(0, .lst false 0 (ets false l)), (1, .clo 142 [.vptr (.int .i64 k)]), (7, .int .i64 l.length), (8, .int .i64 i)], [], 2⟩ →
    oc.loop 188 2 s = some (if 0 ≤ idxE p i (l.drop i) then (.ret, ⟨[(4, .int .i64 (idxE p i (l.drop i)))], [], 2⟩) else (.exit 0, ⟨[], [], 2⟩)) := by
  refine loop_ind (fun i => l.length - i) _ (fun i => ⟨[(0, .lst false 0 (ets false l)), (1, .clo 142 [.vptr (.int .i64 k)]), (7, .int .i64 l.length), (8, .int .i64 i)], [], 2⟩) _ ?_
  intro i hi ih s hs
  refine loop_s cd188 rfl rfl hs ?_
  refine wa_ (wc_region (w_ (b_ (h := wo_nil (e_ (h := aft_normal (wa_ (?_))))))))
  refine c_ (h1 := ?_) (h2 := ?_)
  rotate_right 1
  focus
   intro c1
   first
   | exact dn c1
   | (have d1 := c1; try simp at d1
      refine wc_exit (?_)
      )
  rotate_right 1
  focus
   intro c1
   first
   | exact dn c1
   | (have d1 := c1; try simp at d1
      have hw := wrap_succ (i := i) (by omega); obtain ⟨x, hx, e1, g1⟩ := ets_cut (t := false) (l := l) (i := i) (by omega); have hq := hc x (List.mem_of_getElem? hx)
      refine wc_skip (?_)
      )
  all_goals first
  | refine aft_exit ?_
  | (refine aft_normal ?_
     refine wa_ (wc_block (wa_ (wc_region (w_ (m_ (h := w_ (a_ (h := wo_nil (e_ (h := aft_normal (wa_ (wc_region (w_ (m_ (h := w_ (m_ (h := ?_)))))))))))))))))
     refine w_ (m_ (h := w_ (x_ (h := w_ (l_ (h := w_ (?_)))))))
     refine k_callS rfl rfl (by rw [cf_in]; rfl) rfl (by rw [cf_md]; rfl) (by simp [cf_md, mdT]; rfl) (by first | rfl | simp [*]) hq rfl (by simp; rfl) (by simp [cf_md, mdT]) (by simp; rfl) (by simp; rfl) ?_
     refine wo_nil (e_ (h := aft_normal (?_)))
     refine c_ (h1 := ?_) (h2 := ?_)
     rotate_right 1
     focus
      intro c2
      first
      | exact dn c2
      | (have d2 := c2; try simp at d2
         refine wc_skip (?_)
         )
     rotate_right 1
     focus
      intro c2
      first
      | exact dn c2
      | (have d2 := c2; try simp at d2
         refine wa_ (wc_region (w_ (m_ (h := w_ (a_ (h := wo_nil (e_ (h := aft_normal (wc_ret (?_))))))))))
         )
     all_goals first | refine blk_normal ?_ | refine blk_ret ?_
     all_goals first
     | refine aft_ret ?_
     | (refine aft_normal ?_
        refine wc_region (w_ (b_ (h := w_ (m_ (h := wo_nil (e_ (h := ?_)))))))
        )
     )
  all_goals first
  | (refine (ih (i + 1) (by omega) ?_ _ ?_).trans ?_; (focus (first | omega | (simp; done) | (simp; omega))); (focus (simp [normE, hw]; done)); (focus (rw [e1]; simp only [idxE, if_neg (show ¬ p x = true by simp [d2])])))
  | (apply end_leaf (ex := Ext.ret) 2 (some [4]); (focus (simp [normE]; rfl)); (focus (rw [e1]; simp [idxE, d2])))
  | (apply end_leaf (ex := (Ext.exit 0)) 2 (some [4]); (focus (simp [normE]; rfl)); (focus (rw [List.drop_eq_nil_of_le (by omega)]; simp [idxE])))
theorem e_ix_Long (l : List (Et)) (k : Int) (p : Et → Bool) (hl : l.length < 2000000) (hc : ∀ x ∈ l, oc.call 142 [x.v false, .vptr (.int .i64 k)] = some (.bool (p x), [])) : oc.call 188 [.lst false 0 (ets false l), .clo 142 [.vptr (.int .i64 k)]] = some (.int .i64 (if 0 ≤ idxE p 0 l then idxE p 0 l else -1), []) := by
  refine fun_s rfl cd188 rfl rfl rfl (by simp; rfl) (by simp; rfl) ?_
  refine wa_ (wc_region (w_ (a_ (h := wo_nil (e_ (h := aft_normal (wa_ (wa_ (wc_region (w_ (m_ (h := w_ (le (h := w_ (m_ (h := wo_nil (e_ (h := ?_))))))))))))))))))
  refine aft_normal (wc_block (?_))
  refine wc_loopI (l_ix_Long l k p hl hc 0 (by omega) _ (by simp [normE])) ?_ ?_
  rotate_right 1
  focus
   intro c1
   skip
  rotate_right 1
  focus
   intro c1
   skip
  all_goals first | refine blk_ret ?_ | refine blk_exit ?_
  all_goals first
  | refine aft_ret ?_
  | (refine aft_normal ?_
     refine wa_ (wc_region (w_ (a_ (h := wo_nil (e_ (h := aft_normal (wc_ret (?_))))))))
     )
  all_goals (refine fin_ (hr := (res_tmp rfl res_nil)) (h := ?_); (focus (clear hc; first | (simp_all; done) | (simp_all <;> omega))))
theorem e_any_Long (l : List (Et)) (k : Int) (p : Et → Bool) (hl : l.length < 2000000) (hc : ∀ x ∈ l, oc.call 142 [x.v false, .vptr (.int .i64 k)] = some (.bool (p x), [])) : oc.call 141 [.lst false 0 (ets false l), .clo 142 [.vptr (.int .i64 k)]] = some (.bool (l.any p), []) := by
  refine fun_s rfl cd141 rfl rfl rfl (by simp; rfl) (by simp; rfl) ?_
  refine wa_ (wc_region (w_ (a_ (h := wo_nil (e_ (h := aft_normal (wa_ (wc_region (w_ (m_ (h := w_ (m_ (h := w_ (ca (hc := e_ix_Long l k p hl hc) (h := w_ (b_ (h := w_ (a_ (h := ?_)))))))))))))))))))
  refine wo_nil (e_ (h := aft_normal (wc_ret (?_))))
  all_goals (refine fin_ (hr := (res_tmp rfl res_nil)) (h := ?_); (focus (clear hc; rw [← idxE_any (i := 0)]; simp; grind)))
def longE (z : List Et) (k : Int) : Bool := z.any fun e => decide ((e.row.length : Int) < k)
theorem longE_cons {c : Et} {r : List Et} {k : Int} : longE (c :: r) k = (decide ((c.row.length : Int) < k) || longE r k) := by simp [longE]
theorem e_long1 (e : Et) (k : Int) (he : e.row.length < 2000000) : oc.call 142 [e.v false, .vptr (.int .i64 k)] = some (.bool (decide ((e.row.length : Int) < k)), []) := by
  refine fun_s rfl cd142 rfl rfl rfl (by simp; rfl) (by simp; rfl) ?_
  refine wa_ (wc_region (w_ (bx (h := w_ (a_ (h := wo_nil (e_ (h := aft_normal (wa_ (wc_draw (y_ (f_ (h := ax_ (h := y_ (l_ (h := ax_ (h := y_ (ca (hc := e_size 0 (ints e.row) (by simp; omega)) (h := ax_ (h := y_ (l_ (h := ax_ (h := ?_)))))))))))))))))))))))
  refine y_ (b_ (h := ax_ (h := y_ (a_ (h := ax_ (h := wo_nil (ed (h := aft_normal (wc_ret (?_))))))))))
  all_goals (refine fin_ (hr := (res_tmp rfl res_nil)) (h := ?_); (focus (first | (simp_all; done) | (simp_all <;> omega) | (simp_all <;> split <;> simp_all <;> omega))))
theorem row_in {z : List Et} (hz : w_Ets z < 2000000) {e : Et} (h : e ∈ z) : e.row.length < 2000000 := by
  have := w_Ets_mem h; unfold w_Et at this; omega
theorem e_long (z : List Et) (k : Int) (hz : w_Ets z < 2000000) : oc.call 84 [.lst false 0 (ets false z), .int .i64 k] = some (.bool (!longE z k), []) := by
  refine fun_s rfl cd84 rfl rfl rfl (by simp; rfl) (by simp; rfl) ?_
  refine wa_ (wc_region (w_ (bx (h := w_ (a_ (h := wo_nil (e_ (h := aft_normal (wa_ (wc_region (w_ (m_ (h := w_ (mf (h := w_ (ca (hc := e_any_Long z k (fun e => decide ((e.row.length : Int) < k)) (by have := w_Ets_len (l := z); omega) (fun e he => e_long1 e k (row_in hz he))) (h := w_ (u_ (h := ?_)))))))))))))))))))
  refine w_ (a_ (h := wo_nil (e_ (h := aft_normal (wc_ret (?_))))))
  all_goals (refine fin_ (hr := (res_tmp rfl res_nil)) (h := ?_); (focus (simp [longE])))
theorem l_short (z : List Et) (k : Int) (hz : w_Ets z < 2000000) : ∀ i : Nat, (i ≤ z.length) → ∀ s, normE 2 (some [0, 1, 5]) s = ⟨[(0, .lst false 0 (ets false z)), (1, .int .i64 k), (5, .int .i64 i)], [], 2⟩ →
    oc.loop 80 2 s = some (if longE (z.drop i) k = true then (.ret, ⟨[(4, .bool true)], [], 2⟩) else (.exit 0, ⟨[], [], 2⟩)) := by
  refine loop_ind (σ := Nat) (fun i => z.length - i) _ (fun i => ⟨[(0, .lst false 0 (ets false z)), (1, .int .i64 k), (5, .int .i64 i)], [], 2⟩) _ ?_
  intro i hi ih s hs
  refine loop_s cd80 rfl rfl hs ?_
  have hzl := w_Ets_len (l := z)
  refine wa_ (wa_ (wc_region (w_ (m_ (h := w_ (m_ (h := w_ (le (h := w_ (b_ (h := wo_nil (e_ (h := aft_normal (?_))))))))))))))
  refine c_ (h1 := ?_) (h2 := ?_)
  rotate_right 1
  focus
   intro c1
   first
   | exact dn c1
   | (have d1 := c1; try simp at d1
      refine wc_exit (?_)
      )
  rotate_right 1
  focus
   intro c1
   first
   | exact dn c1
   | (have d1 := c1; try simp at d1
      have hw := wrap_succ (i := i) (by omega); obtain ⟨c, hx, e1, g1⟩ := ets_cut (t := false) (l := z) (i := i) (by omega)
      refine wc_skip (?_)
      )
  all_goals first
  | refine aft_exit ?_
  | (refine aft_normal ?_
     refine wa_ (wc_block (wa_ (wc_region (w_ (m_ (h := w_ (m_ (h := w_ (x_ (h := w_ (f_ (h := w_ (l_ (h := w_ (le (h := w_ (m_ (h := w_ (b_ (h := ?_))))))))))))))))))))
     refine wo_nil (e_ (h := aft_normal (?_)))
     refine c_ (h1 := ?_) (h2 := ?_)
     rotate_right 1
     focus
      intro c2
      first
      | exact dn c2
      | (have d2 := c2; try simp at d2
         refine wc_skip (?_)
         )
     rotate_right 1
     focus
      intro c2
      first
      | exact dn c2
      | (have d2 := c2; try simp at d2
         refine wa_ (wc_region (w_ (a_ (h := wo_nil (e_ (h := aft_normal (wc_ret (?_))))))))
         )
     all_goals first | refine blk_normal ?_ | refine blk_ret ?_
     all_goals first
     | refine aft_ret ?_
     | (refine aft_normal ?_
        refine wc_region (w_ (m_ (h := w_ (b_ (h := w_ (a_ (h := wo_nil (e_ (h := ?_)))))))))
        )
     )
  all_goals first
  | (refine (ih (i + 1) (by omega) ?_ _ ?_).trans ?_; (focus (first | omega | (simp; done) | (simp; omega))); (focus (simp [normE, hw]; done)); (focus (rw [e1, longE_cons, decide_eq_false (by omega)]; simp)))
  | (apply end_leaf (ex := Ext.ret) 2 (some [4]); (focus (simp [normE]; rfl)); (focus (rw [e1, longE_cons, decide_eq_true (by omega)]; simp)))
  | (apply end_leaf (ex := (Ext.exit 0)) 2 (some [4]); (focus (simp [normE]; rfl)); (focus (rw [List.drop_eq_nil_of_le (by omega)]; simp [longE])))
theorem e_short (z : List Et) (k : Int) (hz : w_Ets z < 2000000) : oc.call 80 [.lst false 0 (ets false z), .int .i64 k] = some (.bool (longE z k), []) := by
  refine fun_s rfl cd80 rfl rfl rfl (by simp; rfl) (by simp; rfl) ?_
  refine wa_ (wc_region (w_ (a_ (h := wo_nil (e_ (h := aft_normal (wa_ (wa_ (wc_region (w_ (a_ (h := wo_nil (e_ (h := aft_normal (wc_block (?_))))))))))))))))
  refine wc_loopI (l_short z k hz 0 (by omega) _ (by simp [normE])) ?_ ?_
  rotate_right 1
  focus
   intro c1
   skip
  rotate_right 1
  focus
   intro c1
   skip
  all_goals first | refine blk_ret ?_ | refine blk_exit ?_
  all_goals first
  | refine aft_ret ?_
  | (refine aft_normal ?_
     refine wa_ (wc_region (w_ (a_ (h := wo_nil (e_ (h := aft_normal (wc_ret (?_))))))))
     )
  all_goals (refine fin_ (hr := (res_tmp rfl res_nil)) (h := ?_); (focus (simp_all)))
def partsN (f : List Int → Int) (m : Nat) (z : List Et) : List (List Et) := (List.range m).map fun (k : Nat) => z.filter fun e => decide (f e.row = (k : Int))
@[simp] theorem partsN_len {f : List Int → Int} {m : Nat} {z : List Et} : (partsN f m z).length = m := by simp [partsN]
@[simp] theorem partsN_take {f : List Int → Int} {m : Nat} {z : List Et} : (partsN f m z).take m = partsN f m z := List.take_of_length_le (by simp)
theorem partsN_nil {f : List Int → Int} {m : Nat} : partsN f m [] = List.replicate m [] := by
  apply List.ext_getElem <;> simp [partsN]
theorem partsN_snoc {f : List Int → Int} {m : Nat} {z : List Et} {e : Et} {i : Nat} (he : z[i]? = some e) (h0 : 0 ≤ f e.row) (h1 : f e.row < m) : ∃ q, (partsN f m (z.take i))[(f e.row).toNat]? = some q ∧ q.length ≤ z.length ∧ (partsN f m (z.take i)).set (f e.row).toNat (q ++ [e]) = partsN f m (z.take (i + 1)) := by
  have hk : (f e.row).toNat < m := by omega
  refine ⟨(z.take i).filter (fun x => decide (f x.row = ((f e.row).toNat : Int))), ?_, ?_, ?_⟩
  · simp [partsN, hk]
  · exact Nat.le_trans (List.length_filter_le _ _) (by simp; omega)
  · have ht : z.take (i + 1) = z.take i ++ [e] := by
      have hlt := (List.getElem?_eq_some_iff.1 he).1
      rw [List.take_add_one, he]; rfl
    rw [ht]
    apply List.ext_getElem?
    intro n
    by_cases hn : n = (f e.row).toNat
    · subst hn
      have hto : ((f e.row).toNat : Int) = f e.row := Int.toNat_of_nonneg h0
      simp [partsN, hk, List.filter_append, hto]
    · rw [List.getElem?_set_ne (Ne.symm hn)]
      by_cases hm : n < m
      · simp [partsN, hm, List.filter_append]; omega
      · simp [partsN, hm]
theorem partsN_mem {f : List Int → Int} {m : Nat} {z : List Et} {q : List Et} (h : q ∈ partsN f m z) : q.Sublist z := by
  simp only [partsN, List.mem_map] at h
  obtain ⟨k, _, rfl⟩ := h
  exact List.filter_sublist
def shf (m k : Int) (r : List Int) : Int := shardN m r k
theorem e_areW (m k : Int) : oc.call 74 [.int .i64 m, .int .i64 k] = some (.bool (inI m 1 3 && inI k 0 4), []) := by
  refine fun_s rfl cd74 rfl rfl rfl (by simp; rfl) (by simp; rfl) ?_
  refine wa_ (wc_region (w_ (a_ (h := wo_nil (e_ (h := aft_normal (wa_ (wc_region (w_ (m_ (h := w_ (ca (hc := e_in _ _ _) (h := w_ (m_ (h := ?_)))))))))))))))
  refine gw_ (h1 := ?_) (h2 := ?_)
  rotate_right 1
  focus
   intro c1
   refine go_ (h := go_ (h := ?_))
  rotate_right 1
  focus
   intro c1
   refine g_ (h := w_ (m_ (h := g_ (h := w_ (ca (hc := e_in _ _ _) (h := ?_))))))
  all_goals
   refine w_ (pk (h := w_ (a_ (h := wo_nil (e_ (h := ?_))))))
  all_goals first
  | (refine aft_normal ?_
     refine wc_ret (?_)
     )
  all_goals (refine fin_ (hr := (res_tmp rfl res_nil)) (h := ?_); (focus (simp at * <;> simp [*])))
theorem e_asked (m k : Int) : oc.call 71 [.int .i64 m, .int .i64 k] = some (.int .i64 (if (inI m 1 3 && inI k 0 4) = true then 0 else 3), []) := by
  refine fun_s rfl cd71 rfl rfl rfl (by simp; rfl) (by simp; rfl) ?_
  refine wa_ (wc_region (w_ (a_ (h := wo_nil (e_ (h := aft_normal (wa_ (wa_ (wc_region (w_ (m_ (h := w_ (ca (hc := e_l1In _ _ _) (h := w_ (u_ (h := w_ (m_ (h := ?_))))))))))))))))))
  refine gw_ (h1 := ?_) (h2 := ?_)
  rotate_right 1
  focus
   intro c1
   refine go_ (h := go_ (h := go_ (h := ?_)))
  rotate_right 1
  focus
   intro c1
   refine g_ (h := w_ (m_ (h := g_ (h := w_ (ca (hc := e_l1In _ _ _) (h := g_ (h := w_ (u_ (h := ?_)))))))))
  all_goals
   refine w_ (pk (h := wo_nil (e_ (h := ?_))))
  all_goals first
  | (refine aft_normal ?_
     refine c_ (h1 := ?_) (h2 := ?_)
     rotate_right 1
     focus
      intro c2
      refine wc_skip (?_)
     rotate_right 1
     focus
      intro c2
      refine wa_ (wc_region (w_ (a_ (h := wo_nil (e_ (h := aft_normal (wc_ret (?_))))))))
     )
  all_goals first
  | refine aft_ret ?_
  | (refine aft_normal ?_
     refine wa_ (wc_region (w_ (a_ (h := wo_nil (e_ (h := aft_normal (wc_ret (?_))))))))
     )
  all_goals (refine fin_ (hr := (res_tmp rfl res_nil)) (h := ?_); (focus (simp at * <;> simp [*])))
theorem e_split1 (m k : Int) (r : List Int) (h : r.length < 2000000) (hm : m ≠ 0) (h0 : 0 ≤ k) (h1 : k ≤ r.length) : oc.call 86 [.lst false 0 (ints r), .vptr (.int .i64 m), .vptr (.int .i64 k)] = some (.int .i64 (shardN m r k), []) := by
  refine fun_s rfl cd86 rfl rfl rfl (by simp; rfl) (by simp; rfl) ?_
  refine wa_ (wc_region (w_ (a_ (h := wo_nil (e_ (h := aft_normal (wa_ (wc_region (w_ (l_ (h := w_ (m_ (h := w_ (l_ (h := w_ (ca (hc := e_shardI m k r h hm h0 h1) (h := w_ (a_ (h := ?_)))))))))))))))))))
  refine wo_nil (e_ (h := aft_normal (wc_ret (?_))))
  all_goals (refine fin_ (hr := (res_tmp rfl res_nil)) (h := ?_); (focus (first | (simp_all; done) | (simp_all <;> omega) | (simp_all <;> split <;> simp_all <;> omega))))
theorem longE_row {z : List Et} {k : Int} (h : longE z k = false) {e : Et} (he : e ∈ z) : k ≤ e.row.length := by
  simp [longE] at h; exact h e he
theorem l_part (z : List Et) (m : Nat) (k : Int) (hz : w_Ets z < 2000000) (hm : 0 < m) (hm2 : m < 2000000) (h0 : 0 ≤ k) (h1 : longE z k = false) : ∀ i : Nat, (i ≤ z.length) → ∀ s, normE 3 (some [2, 7, 13, 14, 15]) s = ⟨[(2, .clo 86 [.vptr (.int .i64 m), .vptr (.int .i64 k)]), (7, .ref 3 0 m), (13, .lst false 0 (ets false z)), (14, .int .i64 z.length), (15, .int .i64 i)], [(3, ⟨false, false, 1, etss true (partsN (shf m k) m (z.take i)), 0⟩)], 4⟩ →
    oc.loop 85 3 s = some (.exit 0, ⟨[(7, .ref 3 0 m)], [(3, ⟨false, false, 1, etss true (partsN (shf m k) m z), 0⟩)], 4⟩) := by
  refine loop_ind (σ := Nat) (fun i => z.length - i) _ (fun i => ⟨[(2, .clo 86 [.vptr (.int .i64 m), .vptr (.int .i64 k)]), (7, .ref 3 0 m), (13, .lst false 0 (ets false z)), (14, .int .i64 z.length), (15, .int .i64 i)], [(3, ⟨false, false, 1, etss true (partsN (shf m k) m (z.take i)), 0⟩)], 4⟩) _ ?_
  intro i hi ih s hs
  refine loop_s cd85 rfl rfl hs ?_
  have hzl := w_Ets_len (l := z)
  refine wa_ (wc_region (w_ (b_ (h := wo_nil (e_ (h := aft_normal (wa_ (?_))))))))
  refine c_ (h1 := ?_) (h2 := ?_)
  rotate_right 1
  focus
   intro c1
   first
   | exact dn c1
   | (have d1 := c1; try simp at d1
      refine wc_exit (?_)
      )
  rotate_right 1
  focus
   intro c1
   first
   | exact dn c1
   | (have d1 := c1; try simp at d1
      have hw := wrap_succ (i := i) (by omega); obtain ⟨c, hx, e1, g1⟩ := ets_cut (t := false) (l := z) (i := i) (by omega); have hcm := List.mem_of_getElem? hx; have hcr := row_in hz hcm; have hlong := longE_row h1 hcm; have hsh := shardN_in (m := m) (r := c.row) (k := k) (by omega); obtain ⟨q, hq, hql, hqs⟩ := partsN_snoc (f := shf m k) (m := m) hx hsh.1 hsh.2; have g2 : (etss true (partsN (shf m k) m (z.take i)))[(shardN m c.row k).toNat]? = some (.lst true 2 (ets true q)) := etss_get (t := true) hq; change (partsN (shf m k) m (z.take i)).set (shardN m c.row k).toNat (q ++ [c]) = _ at hqs; have hqt : List.take (q.length + 1) (q ++ [({ row := c.row, w := c.w } : Et)]) = q ++ [c] := List.take_of_length_le (by simp)
      refine wc_skip (?_)
      )
  all_goals first
  | refine aft_exit ?_
  | (refine aft_normal ?_
     refine wa_ (wc_block (wa_ (wc_region (w_ (x_ (h := w_ (l_ (h := w_ (al (h := w0 (s_ (h := wo_nil (e_ (h := aft_normal (wa_ (wc_region (?_)))))))))))))))))
     refine w_ (m_ (h := w_ (f_ (h := w_ (l_ (h := w_ (ca (hc := e_split1 m k c.row hcr (by omega) h0 hlong) (h := w_ (a_ (h := wo_nil (e_ (h := aft_normal (wc_draw (y_ (m_ (h := ax_ (h := y_ (m_ (h := ax_ (h := y_ (m_ (h := ax_ (h := y_ (m_ (h := ax_ (h := ?_))))))))))))))))))))))))))
     refine y_ (x_ (h := ax_ (h := y_ (l_ (h := ax_ (h := y_ (f_ (h := ax_ (h := y_ (l_ (h := ax_ (h := y_ (ca (hc := e_cloneI c.row hcr) (h := ax_ (h := y_ (f_ (h := ax_ (h := y_ (l_ (h := ax_ (h := y_ (bd (h := ax_ (h := y_ (bs (h := ax_ (h := y_ (?_))))))))))))))))))))))))))))
     refine apP (h := ?_)
     refine ax_ (h := y_ (x_ (h := ax_ (h := y0 (s_ (h := ax_ (h := wo_nil (ed (h := blk_normal (aft_normal (wc_region (w_ (b_ (h := w_ (m_ (h := wo_nil (e_ (h := ?_))))))))))))))))))
     )
  all_goals first
  | (refine (ih (i + 1) (by omega) ?_ _ ?_).trans ?_; (focus (first | omega | (simp; done) | (simp; omega))); (focus (simp [normE, hw, hqt, hqs]; done)); (focus (rfl)))
  | (apply end_leaf (ex := (Ext.exit 0)) 3 (some [7]); (focus (simp [normE]; rfl)); (focus (rw [List.take_of_length_le (by omega)])))
theorem e_part (z : List Et) (m : Nat) (k : Int) (hz : w_Ets z < 2000000) (hm : 0 < m) (hm2 : m < 2000000) (h0 : 0 ≤ k) (h1 : longE z k = false) : oc.call 85 [.int .i64 m, .lst false 0 (ets false z), .clo 86 [.vptr (.int .i64 m), .vptr (.int .i64 k)]] = some (.lst true 1 (etss true (partsN (shf m k) m z)), []) := by
  refine fun_s rfl cd85 rfl rfl rfl (by simp; rfl) (by simp; rfl) ?_
  have hzl := w_Ets_len (l := z)
  refine wa_ (wc_region (w_ (aN (h := wo_nil (e_ (h := aft_normal (wa_ (wc_region (w_ (m_ (h := w_ (mk (h := w_ (a_ (h := wo_nil (e_ (h := aft_normal (?_))))))))))))))))))
  refine wa_ (wa_ (wc_region (w_ (m_ (h := w_ (le (h := w_ (m_ (h := wo_nil (e_ (h := aft_normal (wc_block (?_)))))))))))))
  refine wc_loop (l_part z m k hz hm hm2 h0 h1 0 (by omega) _ (by simp [normE, partsN_nil, etss_zero])) ?_
  refine blk_exit (aft_normal (wa_ (wc_region (w_ (m_ (h := w_ (a_ (h := wo_nil (e_ (h := aft_normal (wc_ret (?_))))))))))))
  all_goals (refine fin_ (hr := (res_tmp rfl res_nil)) (h := ?_); (focus (first | (simp_all; done) | (simp_all <;> omega) | (simp_all <;> split <;> simp_all <;> omega))))
def splitN (m : Int) (z : List Et) (k : Int) : Int × List (List Et) := if (inI m 1 3 && inI k 0 4) = true then (if setC z = 0 then (if longE z k = true then (1, []) else (0, partsN (shf m k) m.toNat z)) else (setC z, [])) else (3, [])
@[simp] abbrev srv (r : Int × List (List Et)) : V := .agg [.int .i64 r.1, .lst true 1 (etss true r.2)]
@[simp] abbrev srF (r : Int × List (List Et)) : V := .agg [.int .i64 r.1, .lst false 0 (etss false r.2)]
theorem e_splitI (m k : Int) (z : List Et) (hz : w_Ets z < 2000000) : oc.call 23 [.int .i64 m, .lst false 0 (ets false z), .int .i64 k] = some (srv (splitN m z k), []) := by
  refine fun_s rfl cd23 rfl rfl rfl (by simp; rfl) (by simp; rfl) ?_
  have hzl := w_Ets_len (l := z)
  refine wa_ (wc_region (w_ (bx (h := w_ (bx (h := w_ (al (h := wo_nil (e_ (h := aft_normal (wa_ (wa_ (wc_region (w_ (l_ (h := w_ (l_ (h := ?_))))))))))))))))))
  refine w_ (ca (hc := e_areW m k) (h := w_ (u_ (h := wo_nil (e_ (h := aft_normal (?_)))))))
  refine c_ (h1 := ?_) (h2 := ?_)
  rotate_right 1
  focus
   intro c1
   first
   | exact dn c1
   | (have d1 := c1; try simp at d1
      have hm : 1 ≤ m ∧ m ≤ 3 ∧ 0 ≤ k ∧ k ≤ 4 := (by simp [inI] at d1; omega); obtain ⟨M, rfl⟩ : ∃ M : Nat, m = M := ⟨m.toNat, by omega⟩; have hmm : (inI (M : Int) 1 3 && inI k 0 4) = true := (by simp [inI]; omega)
      refine wc_skip (?_)
      )
  rotate_right 1
  focus
   intro c1
   first
   | exact dn c1
   | (have d1 := c1; try simp at d1
      have hno : (inI m 1 3 && inI k 0 4) = false := (by revert c1; cases inI m 1 3 <;> cases inI k 0 4 <;> simp)
      refine wa_ (wc_region (w_ (bd (h := w0 (s_ (h := wo_nil (e_ (h := aft_normal (wc_ret (?_))))))))))
      )
  all_goals first
  | refine aft_ret ?_
  | (refine aft_normal ?_
     refine wa_ (wc_region (w_ (m_ (h := w_ (ca (hc := e_setI z hz) (h := w_ (a_ (h := wo_nil (e_ (h := aft_normal (wa_ (wc_block (wa_ (wc_region (w_ (m_ (h := ?_)))))))))))))))))
     refine w_ (bE (h := w_ (a_ (h := wo_nil (e_ (h := aft_normal (?_)))))))
     refine c_ (h1 := ?_) (h2 := ?_)
     rotate_right 1
     focus
      intro c2
      first
      | exact dn c2
      | (have d2 := c2; try simp at d2
         refine wa_ (wc_region (w_ (m_ (h := w_ (l_ (h := w_ (ca (hc := e_long z k hz) (h := w_ (u_ (h := w_ (a_ (h := wo_nil (e_ (h := aft_normal (?_)))))))))))))))
         refine c_ (h1 := ?_) (h2 := ?_)
         rotate_right 1
         focus
          intro c3
          first
          | exact dn c3
          | (have d3 := c3; try simp at d3
             refine wc_skip (?_)
             )
         rotate_right 1
         focus
          intro c3
          first
          | exact dn c3
          | (have d3 := c3; try simp at d3
             refine wa_ (wc_region (w_ (bd (h := w0 (s_ (h := wo_nil (e_ (h := aft_normal (wc_ret (?_))))))))))
             )
         )
     rotate_right 1
     focus
      intro c2
      first
      | exact dn c2
      | (have d2 := c2; try simp at d2
         refine wa_ (wc_region (w_ (m_ (h := w_ (bd (h := w0 (s_ (h := wo_nil (e_ (h := aft_normal (wc_ret (?_))))))))))))
         )
     all_goals first | refine blk_normal ?_ | refine blk_ret ?_
     all_goals first
     | refine aft_ret ?_
     | (refine aft_normal ?_
        refine wa_ (wc_region (w_ (l_ (h := w_ (m_ (h := w_ (mf (h := w_ (ca (hc := e_part z M k hz (by omega) (by omega) (by omega) (by simpa using d3)) (h := w_ (bd (h := w0 (s_ (h := wo_nil (e_ (h := aft_normal (wc_ret (?_))))))))))))))))))
        )
     )
  all_goals (refine fin_ (hr := (res_cell (tys_ok.zero _ _ rfl) rfl (by simp; rfl) (by rfl) res_nil)) (h := ?_); (focus (first | (simp only [splitN, hno]; simp; done) | (simp only [splitN, hmm]; simp at *; simp [*]))))
end Go.Proofs.Ytmednhpmcplplaa.Ev
namespace Go.Proofs.Ytmednhpmcplplaa.Ev
open Go
set_option maxRecDepth 100000
set_option linter.unusedSimpArgs false
set_option linter.unusedVariables false
set_option maxHeartbeats 2000000
theorem e_l2Row (r : List Int) (h : r.length < 2000000) : oc.call 81 [.lst false 0 (ints r)] = some (.lst true 1 (ints r), []) := by
  refine fun_s rfl cd81 rfl rfl rfl (by simp; rfl) (by simp; rfl) ?_
  refine wa_ (wc_region (w_ (aN (h := wo_nil (e_ (h := aft_normal (wa_ (wc_region (w_ (bs (h := w_ (m_ (h := w_ (ap (h := w_ (a_ (h := wo_nil (e_ (h := ?_)))))))))))))))))))
  refine aft_normal (wc_ret (?_))
  all_goals (refine fin_ (hr := (res_tmp rfl res_nil)) (h := ?_); (focus (first | (simp_all; done) | (simp_all <;> omega) | (simp_all <;> split <;> simp_all <;> omega))))
theorem l_splitS (z : List Et) (m : Nat) (k : Int) (hz : w_Ets z < 2000000) (hm : 0 < m) (hm2 : m < 2000000) (h0 : 0 ≤ k) (h1 : longE z k = false) : ∀ i : Nat, (i ≤ z.length) → ∀ s, normE 3 (some [0, 1, 2, 6, 9, 10]) s = ⟨[(0, .int .i64 m), (1, .lst false 0 (ets false z)), (2, .int .i64 k), (6, .ptr 3 0 []), (9, .ptr 4 0 []), (10, .int .i64 i)], [(3, ⟨true, false, 2, [.agg [.int .i64 0, .lst true 1 []]], 0⟩), (4, ⟨true, false, 2, [.agg [.int .i64 0, .ref 5 0 m]], 0⟩), (5, ⟨false, false, 1, etss true (partsN (shf m k) m (z.take i)), 0⟩)], 6⟩ →
    oc.loop 21 11 s = some (.exit 0, ⟨[(6, .ptr 3 0 []), (9, .ptr 4 0 [])], [(3, ⟨true, false, 2, [.agg [.int .i64 0, .lst true 1 []]], 0⟩), (4, ⟨true, false, 2, [.agg [.int .i64 0, .ref 5 0 m]], 0⟩), (5, ⟨false, false, 1, etss true (partsN (shf m k) m z), 0⟩)], 6⟩) := by
  refine loop_ind (σ := Nat) (fun i => z.length - i) _ (fun i => ⟨[(0, .int .i64 m), (1, .lst false 0 (ets false z)), (2, .int .i64 k), (6, .ptr 3 0 []), (9, .ptr 4 0 []), (10, .int .i64 i)], [(3, ⟨true, false, 2, [.agg [.int .i64 0, .lst true 1 []]], 0⟩), (4, ⟨true, false, 2, [.agg [.int .i64 0, .ref 5 0 m]], 0⟩), (5, ⟨false, false, 1, etss true (partsN (shf m k) m (z.take i)), 0⟩)], 6⟩) _ ?_
  intro i hi ih s hs
  refine loop_s cd21 rfl rfl hs ?_
  have hzl := w_Ets_len (l := z)
  refine wa_ (wa_ (wc_region (w_ (m_ (h := w_ (m_ (h := w_ (le (h := w_ (b_ (h := wo_nil (e_ (h := aft_normal (?_))))))))))))))
  refine c_ (h1 := ?_) (h2 := ?_)
  rotate_right 1
  focus
   intro c1
   first
   | exact dn c1
   | (have d1 := c1; try simp at d1
      refine wc_exit (?_)
      )
  rotate_right 1
  focus
   intro c1
   first
   | exact dn c1
   | (have d1 := c1; try simp at d1
      have hw := wrap_succ (i := i) (by omega); obtain ⟨c, hx, e1, g1⟩ := ets_cut (t := false) (l := z) (i := i) (by omega); have hcm := List.mem_of_getElem? hx; have hcr := row_in hz hcm; have hlong := longE_row h1 hcm; have hsh := shardN_in (m := m) (r := c.row) (k := k) (by omega); obtain ⟨q, hq, hql, hqs⟩ := partsN_snoc (f := shf m k) (m := m) hx hsh.1 hsh.2; have g2 : (etss true (partsN (shf m k) m (z.take i)))[(shardN m c.row k).toNat]? = some (.lst true 2 (ets true q)) := etss_get (t := true) hq; change (partsN (shf m k) m (z.take i)).set (shardN m c.row k).toNat (q ++ [c]) = _ at hqs; have hqt : List.take (q.length + 1) (q ++ [({ row := c.row, w := c.w } : Et)]) = q ++ [c] := List.take_of_length_le (by simp)
      refine wc_skip (?_)
      )
  all_goals first
  | refine aft_exit ?_
  | (refine aft_normal ?_
     refine wa_ (wc_block (wa_ (wc_region (w_ (m_ (h := w_ (m_ (h := w_ (m_ (h := w_ (x_ (h := w_ (f_ (h := w_ (l_ (h := w_ (m_ (h := w_ (ca (hc := e_shardS m k c.row hcr (by omega) h0 hlong) (h := ?_))))))))))))))))))))
     refine w_ (a_ (h := wo_nil (e_ (h := aft_normal (wc_draw (y_ (f_ (h := ax_ (h := y_ (l_ (h := ax_ (h := y_ (m_ (h := ax_ (h := y_ (f_ (h := ax_ (h := y_ (l_ (h := ax_ (h := y_ (m_ (h := ax_ (h := y_ (x_ (h := ax_ (h := y_ (l_ (h := ax_ (h := ?_))))))))))))))))))))))))))))))
     refine y_ (m_ (h := ax_ (h := y_ (m_ (h := ax_ (h := y_ (x_ (h := ax_ (h := y_ (f_ (h := ax_ (h := y_ (l_ (h := ax_ (h := y_ (ca (hc := e_l2Row c.row hcr) (h := ax_ (h := y_ (m_ (h := ax_ (h := y_ (m_ (h := ax_ (h := y_ (x_ (h := ax_ (h := y_ (f_ (h := ax_ (h := y_ (l_ (h := ax_ (h := y_ (bd (h := ax_ (h := ?_))))))))))))))))))))))))))))))))))))
     refine y_ (bs (h := ax_ (h := y_ (?_))))
     refine apP (h := ?_)
     refine ax_ (h := y_ (x_ (h := ax_ (h := y0 (s_ (h := ax_ (h := wo_nil (ed (h := blk_normal (aft_normal (wc_region (w_ (m_ (h := w_ (b_ (h := w_ (a_ (h := wo_nil (e_ (h := ?_))))))))))))))))))))
     )
  all_goals first
  | (refine (ih (i + 1) (by omega) ?_ _ ?_).trans ?_; (focus (first | omega | (simp; done) | (simp; omega))); (focus (simp [normE, hw, hqt, hqs]; done)); (focus (rfl)))
  | (apply end_leaf (ex := (Ext.exit 0)) 3 (some [6, 9]); (focus (simp [normE]; rfl)); (focus (rw [List.take_of_length_le (by omega)])))
theorem e_splitS (m k : Int) (z : List Et) (hz : w_Ets z < 2000000) : oc.call 21 [.int .i64 m, .lst false 0 (ets false z), .int .i64 k] = some (srv (splitN m z k), []) := by
  refine fun_s rfl cd21 rfl rfl rfl (by simp; rfl) (by simp; rfl) ?_
  have hzl := w_Ets_len (l := z)
  refine wa_ (wc_region (w_ (al (h := wo_nil (e_ (h := aft_normal (wa_ (wa_ (wc_region (w_ (m_ (h := w_ (m_ (h := w_ (ca (hc := e_asked m k) (h := w_ (a_ (h := ?_))))))))))))))))))
  refine wo_nil (e_ (h := aft_normal (wa_ (wc_region (w_ (m_ (h := w_ (bE (h := wo_nil (e_ (h := aft_normal (?_))))))))))))
  refine c_ (h1 := ?_) (h2 := ?_)
  rotate_right 1
  focus
   intro c1
   first
   | exact dn c1
   | (have d1 := c1; try simp at d1
      have hmm : (inI m 1 3 && inI k 0 4) = true := (by revert c1; cases inI m 1 3 <;> cases inI k 0 4 <;> simp); have hm : 1 ≤ m ∧ m ≤ 3 ∧ 0 ≤ k ∧ k ≤ 4 := (by simp [inI] at hmm; omega); obtain ⟨M, rfl⟩ : ∃ M : Nat, m = M := ⟨m.toNat, by omega⟩
      refine wc_skip (?_)
      )
  rotate_right 1
  focus
   intro c1
   first
   | exact dn c1
   | (have d1 := c1; try simp at d1
      have hno : (inI m 1 3 && inI k 0 4) = false := (by revert c1; cases inI m 1 3 <;> cases inI k 0 4 <;> simp)
      refine wa_ (wc_region (w_ (m_ (h := w_ (bd (h := w0 (s_ (h := wo_nil (e_ (h := aft_normal (wc_ret (?_))))))))))))
      )
  all_goals first
  | refine aft_ret ?_
  | (refine aft_normal ?_
     refine wa_ (wa_ (wc_region (w_ (m_ (h := w_ (ca (hc := e_setS z hz) (h := w_ (a_ (h := wo_nil (e_ (h := aft_normal (wa_ (wc_region (w_ (m_ (h := w_ (bE (h := ?_))))))))))))))))))
     refine wo_nil (e_ (h := aft_normal (?_)))
     refine c_ (h1 := ?_) (h2 := ?_)
     rotate_right 1
     focus
      intro c2
      first
      | exact dn c2
      | (have d2 := c2; try simp at d2
         refine wc_skip (?_)
         )
     rotate_right 1
     focus
      intro c2
      first
      | exact dn c2
      | (have d2 := c2; try simp at d2
         refine wa_ (wc_region (w_ (m_ (h := w_ (bd (h := w0 (s_ (h := wo_nil (e_ (h := aft_normal (wc_ret (?_))))))))))))
         )
     all_goals first
     | refine aft_ret ?_
     | (refine aft_normal ?_
        refine wa_ (wa_ (wc_region (w_ (m_ (h := w_ (m_ (h := w_ (ca (hc := e_short z k hz) (h := wo_nil (e_ (h := aft_normal (?_))))))))))))
        refine c_ (h1 := ?_) (h2 := ?_)
        rotate_right 1
        focus
         intro c3
         first
         | exact dn c3
         | (have d3 := c3; try simp at d3
            refine wc_skip (?_)
            )
        rotate_right 1
        focus
         intro c3
         first
         | exact dn c3
         | (have d3 := c3; try simp at d3
            refine wa_ (wc_region (w_ (bd (h := w0 (s_ (h := wo_nil (e_ (h := aft_normal (wc_ret (?_))))))))))
            )
        all_goals first
        | refine aft_ret ?_
        | (refine aft_normal ?_
           refine wa_ (wc_region (w_ (m_ (h := w_ (mk (h := w_ (bd (h := w_ (al (h := w0 (s_ (h := wo_nil (e_ (h := aft_normal (wa_ (wa_ (wc_region (?_))))))))))))))))))
           refine w_ (a_ (h := wo_nil (e_ (h := aft_normal (wc_block (?_))))))
           refine wc_loop (l_splitS z M k hz (by omega) (by omega) (by omega) (by simpa using d3) 0 (by omega) _ (by simp [normE, partsN_nil, etss_zero])) ?_
           refine blk_exit (aft_normal (wa_ (wc_region (w_ (l_ (h := w0 (s_ (h := wo_nil (e_ (h := aft_normal (wc_ret (?_))))))))))))
           )
        )
     )
  all_goals (refine fin_ (hr := (res_cell (tys_ok.zero _ _ rfl) rfl (by simp; rfl) (by rfl) res_nil)) (h := ?_); (focus (first | (simp only [splitN, hno]; simp; done) | (simp [splitN, hno]; revert hno; cases inI m 1 3 <;> cases inI k 0 4 <;> simp; done) | (simp only [splitN, hmm]; simp at *; simp [*]))))
theorem wS_sub {α : Type} {f : α → Nat} {l m : List α} (h : l.Sublist m) : wS f l ≤ wS f m := by
  induction h with
  | slnil => simp
  | cons x _ ih => simp only [wS_cons]; omega
  | cons_cons x _ ih => simp only [wS_cons]; omega
theorem w_Ets_sub {l m : List Et} (h : l.Sublist m) : w_Ets l ≤ w_Ets m := by
  have h1 := h.length_le; have h2 := wS_sub (f := w_Et) h; unfold w_Ets; omega
theorem cn_Ets_eq {l : List Et} : cn_Ets l = w_Ets l := by
  unfold cn_Ets w_Ets
  induction l with
  | nil => rfl
  | cons x r ih => simp only [wS_cons, List.length_cons, ih, cn_Et, w_Et]; omega
theorem wS_leS {α : Type} {f : α → Nat} {c : Nat} {l : List α} (h : ∀ x ∈ l, f x ≤ c) : wS f l ≤ l.length * c := by
  induction l with
  | nil => simp
  | cons x r ih =>
    have h1 := h x (List.mem_cons_self ..)
    have h2 := ih (fun y hy => h y (List.mem_cons_of_mem _ hy))
    simp only [wS_cons, List.length_cons, Nat.succ_mul]
    omega
def outOf (z : List Et) (l : List (List Et)) : Prop := l.length ≤ 3 ∧ ∀ q ∈ l, w_Ets q ≤ w_Ets z
theorem outOf_wEs {z : List Et} {l : List (List Et)} (hz : w_Ets z < 2000000) (h : outOf z l) : wEs l := ⟨by have := h.1; omega, fun q hq => by have := h.2 q hq; omega⟩
theorem outOf_cn {z : List Et} {l : List (List Et)} (hz : w_Ets z < 2000000) (h : outOf z l) : cn_Etss l ≤ 6000000 := by
  have h1 : cn_Etss l ≤ l.length * 2000000 := wS_leS (f := cn_Ets) (fun x hx => by have := h.2 x hx; rw [cn_Ets_eq]; omega)
  have h2 : l.length * 2000000 ≤ 3 * 2000000 := Nat.mul_le_mul_right _ h.1
  omega
theorem partsN_out {f : List Int → Int} {m : Nat} {z : List Et} (hm : m ≤ 3) : outOf z (partsN f m z) := ⟨by simpa using hm, fun q hq => w_Ets_sub (partsN_mem hq)⟩
theorem splitN_out {m k : Int} {z : List Et} : outOf z (splitN m z k).2 := by
  have h0 : outOf z [] := ⟨by simp, fun q hq => by cases hq⟩
  unfold splitN
  split
  · rename_i h
    have : m.toNat ≤ 3 := by simp [inI] at h; omega
    split
    · split
      · exact h0
      · exact partsN_out this
    · exact h0
  · exact h0
theorem e_eqSr (r s : Int × List (List Et)) (h1 : wEs r.2) (h2 : wEs s.2) : oc.call 24 [srF r, srF s] = some (.bool (decide (r = s)), []) := by
  refine fun_s rfl cd24 rfl rfl rfl (by simp; rfl) (by simp; rfl) ?_
  refine wa_ (wc_region (w_ (bx (h := w_ (bx (h := w_ (a_ (h := wo_nil (e_ (h := aft_normal (wa_ (wa_ (wc_region (w_ (f_ (h := w_ (l_ (h := ?_))))))))))))))))))
  refine w_ (f_ (h := w_ (l_ (h := w_ (bE (h := wo_nil (e_ (h := aft_normal (?_)))))))))
  refine c_ (h1 := ?_) (h2 := ?_)
  rotate_right 1
  focus
   intro c1
   first
   | exact dn c1
   | (have d1 := c1; try simp at d1
      refine wc_skip (?_)
      )
  rotate_right 1
  focus
   intro c1
   first
   | exact dn c1
   | (have d1 := c1; try simp at d1
      refine wa_ (wc_region (w_ (a_ (h := wo_nil (e_ (h := aft_normal (wc_ret (?_))))))))
      )
  all_goals first
  | refine aft_ret ?_
  | (refine aft_normal ?_
     refine wa_ (wa_ (wc_region (w_ (f_ (h := w_ (l_ (h := w_ (f_ (h := w_ (l_ (h := w_ (ca (hc := eq_Etss r.2 s.2 h1 h2) (h := w_ (u_ (h := wo_nil (e_ (h := aft_normal (?_))))))))))))))))))
     refine c_ (h1 := ?_) (h2 := ?_)
     rotate_right 1
     focus
      intro c2
      first
      | exact dn c2
      | (have d2 := c2; try simp at d2
         refine wc_skip (?_)
         )
     rotate_right 1
     focus
      intro c2
      first
      | exact dn c2
      | (have d2 := c2; try simp at d2
         refine wa_ (wc_region (w_ (a_ (h := wo_nil (e_ (h := aft_normal (wc_ret (?_))))))))
         )
     all_goals first
     | refine aft_ret ?_
     | (refine aft_normal ?_
        refine wa_ (wc_region (w_ (a_ (h := wo_nil (e_ (h := aft_normal (wc_ret (?_))))))))
        )
     )
  all_goals (refine fin_ (hr := (res_tmp rfl res_nil)) (h := ?_); (focus (simp [Prod.ext_iff] at *; simp_all)))
theorem e_heldSr (c k : Int) (l : List (List Et)) (hk : 0 ≤ k) (hl : l.length < 2000000) (hb : k + (cn_Etss l : Nat) < 1000000000000000000) : oc.call 28 [srF (c, mk_Etss k l), .int .i64 k] = some (.int .i64 (k + (cn_Etss l : Nat)), []) := by
  refine fun_s rfl cd28 rfl rfl rfl (by simp; rfl) (by simp; rfl) ?_
  refine wa_ (wc_region (w_ (bx (h := w_ (a_ (h := wo_nil (e_ (h := aft_normal (wa_ (wc_region (w_ (f_ (h := w_ (l_ (h := w_ (m_ (h := w_ (ca (hc := held_Etss k l hk hl hb) (h := ?_)))))))))))))))))))
  refine w_ (a_ (h := wo_nil (e_ (h := aft_normal (wa_ (wa_ (wc_region (w_ (m_ (h := w_ (b_ (h := wo_nil (e_ (h := aft_normal (?_)))))))))))))))
  refine c_ (h1 := ?_) (h2 := ?_)
  rotate_right 1
  focus
   intro c1
   first
   | exact dn c1
   | (have d1 := c1; try simp at d1
      refine wc_skip (?_)
      )
  rotate_right 1
  focus
   intro c1
   first
   | exact dn c1
   | (have d1 := c1; try simp at d1
      refine wa_ (wc_region (w_ (a_ (h := wo_nil (e_ (h := aft_normal (wc_ret (?_))))))))
      )
  all_goals first
  | refine aft_ret ?_
  | (refine aft_normal ?_
     refine wa_ (wc_region (w_ (m_ (h := w_ (a_ (h := wo_nil (e_ (h := aft_normal (wc_ret (?_))))))))))
     )
  all_goals (refine fin_ (hr := (res_tmp rfl res_nil)) (h := ?_); (focus (first | (simp at *; done) | (simp at *; omega))))
theorem law_split (m : Int) (z : List Et) (k : Int) (hz : bg_Ets z) : oc.call 4 [.int .i64 m, .lst false 0 (ets false z), .int .i64 k] = some (.bool true, []) := by
  refine fun_s rfl cd4 rfl rfl rfl (by simp; rfl) (by simp; rfl) ?_
  refine wa_ (wc_region (w_ (a_ (h := wo_nil (e_ (h := aft_normal (wa_ (wc_region (w_ (a_ (h := wo_nil (e_ (h := aft_normal (wa_ (wc_region (?_))))))))))))))))
  refine w_ (m_ (h := w_ (m_ (h := w_ (ca (hc := sz_Ets z 1048576 hz (by omega) (by omega)) (h := w_ (a_ (h := wo_nil (e_ (h := aft_normal (wa_ (wa_ (wc_region (w_ (m_ (h := w_ (b_ (h := wo_nil (e_ (h := ?_))))))))))))))))))))
  refine aft_normal (?_)
  refine c_ (h1 := ?_) (h2 := ?_)
  rotate_right 1
  focus
   intro c1
   first
   | exact dn c1
   | (have d1 := c1; try simp at d1
      obtain ⟨h4, h5⟩ := szI_pos (n := w_Ets z) (a := 1048576) (by omega); have hw : w_Ets z < 2000000 := (by omega); have ho := splitN_out (m := m) (k := k) (z := z); have hs := outOf_wEs hw ho; have hc := outOf_cn hw ho; have hcz := cn_Ets_eq (l := z); have hol := ho.1
      refine wc_skip (?_)
      )
  rotate_right 1
  focus
   intro c1
   first
   | exact dn c1
   | (have d1 := c1; try simp at d1
      refine wa_ (wc_region (w_ (a_ (h := wo_nil (e_ (h := aft_normal (wc_ret (?_))))))))
      )
  all_goals first
  | refine aft_ret ?_
  | (refine aft_normal ?_
     refine wa_ (wc_region (w_ (m_ (h := w_ (m_ (h := w_ (ca (hc := to_Ets z hw) (h := w_ (m_ (h := w_ (ca (hc := e_splitS m k z hw) (h := w_ (al (h := w0 (s_ (h := wo_nil (e_ (h := aft_normal (wa_ (?_))))))))))))))))))))
     refine wc_region (w_ (m_ (h := w_ (ca (hc := to_Ets z hw) (h := w_ (a_ (h := wo_nil (e_ (h := aft_normal (wa_ (wc_region (w_ (m_ (h := w_ (m_ (h := w_ (m_ (h := w_ (ca (hc := e_splitI m k z hw) (h := ?_))))))))))))))))))))
     refine w_ (al (h := w0 (s_ (h := wo_nil (e_ (h := aft_normal (wa_ (wa_ (wc_region (w_ (l_ (h := w_ (l_ (h := w_ (ca (hc := e_eqSr (splitN m z k) (splitN m z k) hs hs) (h := w_ (u_ (h := wo_nil (e_ (h := ?_))))))))))))))))))))
     refine aft_normal (?_)
     refine c_ (h1 := ?_) (h2 := ?_)
     rotate_right 1
     focus
      intro c2
      first
      | exact dn c2
      | (have d2 := c2; try simp at d2
         refine wc_skip (?_)
         )
     rotate_right 1
     focus
      intro c2
      first
      | exact dn c2
      | (have d2 := c2; try simp at d2
         refine wa_ (wc_region (w_ (a_ (h := wo_nil (e_ (h := aft_normal (wc_ret (?_))))))))
         )
     all_goals first
     | refine aft_ret ?_
     | (refine aft_normal ?_
        refine wa_ (wa_ (wc_region (w_ (m_ (h := w_ (m_ (h := w_ (ca (hc := to_Ets z hw) (h := w_ (ca (hc := eq_Ets z z hw hw) (h := w_ (u_ (h := wo_nil (e_ (h := aft_normal (?_))))))))))))))))
        refine c_ (h1 := ?_) (h2 := ?_)
        rotate_right 1
        focus
         intro c3
         first
         | exact dn c3
         | (have d3 := c3; try simp at d3
            refine wc_skip (?_)
            )
        rotate_right 1
        focus
         intro c3
         first
         | exact dn c3
         | (have d3 := c3; try simp at d3
            refine wa_ (wc_region (w_ (a_ (h := wo_nil (e_ (h := aft_normal (wc_ret (?_))))))))
            )
        all_goals first
        | refine aft_ret ?_
        | (refine aft_normal ?_
           refine wa_ (wc_region (w_ (a_ (h := wo_nil (e_ (h := aft_normal (wa_ (wc_region (w_ (m_ (h := w_ (m_ (h := ?_)))))))))))))
           first | refine ip (hc := mkf_Ets 1 z (by omega) (by omega)) (h := ?_) | refine iq (hc := mkf_Ets 1 z (by omega) (by omega)) (h := ?_)
           refine w_ (a_ (h := wo_nil (e_ (h := aft_normal (wa_ (wa_ (wc_region (w_ (m_ (h := w_ (b_ (h := w_ (m_ (h := ?_))))))))))))))
           refine gw_ (h1 := ?_) (h2 := ?_)
           rotate_right 1
           focus
            intro c4
            first
            | exact dn c4
            | (have d4 := c4; try simp at d4
               refine go_ (h := go_ (h := go_ (h := go_ (h := ?_))))
               )
           rotate_right 1
           focus
            intro c4
            first
            | exact dn c4
            | (have d4 := c4; try simp at d4
               refine g_ (h := w_ (l_ (h := g_ (h := w_ (l_ (h := g_ (h := w_ (ca (hc := e_eqSr (splitN m z k) (splitN m z k) hs hs) (h := g_ (h := w_ (u_ (h := ?_))))))))))))
               )
           all_goals
            refine w_ (pk (h := wo_nil (e_ (h := ?_))))
           all_goals first
           | (refine aft_normal ?_
              refine c_ (h1 := ?_) (h2 := ?_)
              rotate_right 1
              focus
               intro c5
               first
               | exact dn c5
               | (have d5 := c5; try simp at d5
                  refine wc_skip (?_)
                  )
              rotate_right 1
              focus
               intro c5
               first
               | exact dn c5
               | (have d5 := c5; try simp at d5
                  refine wa_ (wc_region (w_ (a_ (h := wo_nil (e_ (h := aft_normal (wc_ret (?_))))))))
                  )
              )
           all_goals first
           | refine aft_ret ?_
           | (refine aft_normal ?_
              refine wa_ (wc_region (w_ (a_ (h := wo_nil (e_ (h := aft_normal (wa_ (wc_region (w_ (l_ (h := w_ (m_ (h := ?_)))))))))))))
              refine iE (h := ?_)
              apply Exists.intro
              apply Exists.intro
              apply Exists.intro
              apply And.intro
              focus
               apply inl_s (by rw [cf_pl]; rfl) cd27 rfl rfl (by simp; rfl)
               refine wa_ (wc_region (w_ (bx (h := w_ (a_ (h := wo_nil (e_ (h := aft_normal (wa_ (wc_region (w_ (f_ (h := w_ (l_ (h := w_ (m_ (h := ?_)))))))))))))))))
               first | refine ip (hc := mkf_Etss 1 (splitN m z k).2 (by omega) (by omega) (by omega)) (h := ?_) | refine iq (hc := mkf_Etss 1 (splitN m z k).2 (by omega) (by omega) (by omega)) (h := ?_)
               refine w_ (a_ (h := wo_nil (e_ (h := aft_normal (wa_ (wc_region (w_ (m_ (h := w_ (a_ (h := wo_nil (e_ (h := aft_normal (wc_ret (?_)))))))))))))))
               exact ⟨by simp, _, rfl, rfl, rfl⟩
              refine ⟨_, (by (simp; rfl)), ?_⟩
              refine w_ (a_ (h := wo_nil (e_ (h := aft_normal (wa_ (wc_region (w_ (a_ (h := wo_nil (e_ (h := aft_normal (wa_ (wc_region (w_ (l_ (h := w_ (m_ (h := ?_))))))))))))))))))
              refine w_ (ca (hc := e_heldSr (splitN m z k).1 1 (splitN m z k).2 (by omega) (by omega) (by omega)) (h := w_ (a_ (h := wo_nil (e_ (h := aft_normal (wa_ (wa_ (wc_region (w_ (m_ (h := w_ (b_ (h := wo_nil (e_ (h := aft_normal (?_)))))))))))))))))
              refine c_ (h1 := ?_) (h2 := ?_)
              rotate_right 1
              focus
               intro c6
               first
               | exact dn c6
               | (have d6 := c6; try simp at d6
                  refine wc_skip (?_)
                  )
              rotate_right 1
              focus
               intro c6
               first
               | exact dn c6
               | (have d6 := c6; try simp at d6
                  refine wa_ (wc_region (w_ (a_ (h := wo_nil (e_ (h := aft_normal (wc_ret (?_))))))))
                  )
              all_goals first
              | refine aft_ret ?_
              | (refine aft_normal ?_
                 refine wa_ (wa_ (wc_region (w_ (m_ (h := w_ (m_ (h := w_ (bE (h := wo_nil (e_ (h := aft_normal (?_))))))))))))
                 refine c_ (h1 := ?_) (h2 := ?_)
                 rotate_right 1
                 focus
                  intro c7
                  first
                  | exact dn c7
                  | (have d7 := c7; try simp at d7
                     refine wc_skip (?_)
                     )
                 rotate_right 1
                 focus
                  intro c7
                  first
                  | exact dn c7
                  | (have d7 := c7; try simp at d7
                     refine wa_ (wc_region (w_ (a_ (h := wo_nil (e_ (h := aft_normal (wc_ret (?_))))))))
                     )
                 all_goals first
                 | refine aft_ret ?_
                 | (refine aft_normal ?_
                    refine wa_ (wc_region (w_ (m_ (h := w_ (m_ (h := w_ (ca (hc := to_Ets z hw) (h := w_ (m_ (h := w_ (ca (hc := e_splitI m k z hw) (h := w_ (al (h := w0 (s_ (h := wo_nil (e_ (h := aft_normal (wa_ (?_))))))))))))))))))))
                    refine wa_ (wc_region (w_ (l_ (h := w_ (l_ (h := w_ (ca (hc := e_eqSr (splitN m z k) (splitN m z k) hs hs) (h := w_ (u_ (h := wo_nil (e_ (h := aft_normal (?_)))))))))))))
                    refine c_ (h1 := ?_) (h2 := ?_)
                    rotate_right 1
                    focus
                     intro c8
                     first
                     | exact dn c8
                     | (have d8 := c8; try simp at d8
                        refine wc_skip (?_)
                        )
                    rotate_right 1
                    focus
                     intro c8
                     first
                     | exact dn c8
                     | (have d8 := c8; try simp at d8
                        refine wa_ (wc_region (w_ (a_ (h := wo_nil (e_ (h := aft_normal (wc_ret (?_))))))))
                        )
                    all_goals first
                    | refine aft_ret ?_
                    | (refine aft_normal ?_
                       refine wa_ (wc_region (w_ (a_ (h := wo_nil (e_ (h := aft_normal (wa_ (wc_region (w_ (l_ (h := w_ (m_ (h := w_ (ca (hc := e_heldSr (splitN m z k).1 1 (splitN m z k).2 (by omega) (by omega) (by omega)) (h := w_ (a_ (h := wo_nil (e_ (h := ?_)))))))))))))))))))
                       refine aft_normal (wa_ (wa_ (wc_region (w_ (m_ (h := w_ (b_ (h := wo_nil (e_ (h := aft_normal (?_)))))))))))
                       refine c_ (h1 := ?_) (h2 := ?_)
                       rotate_right 1
                       focus
                        intro c9
                        first
                        | exact dn c9
                        | (have d9 := c9; try simp at d9
                           refine wc_skip (?_)
                           )
                       rotate_right 1
                       focus
                        intro c9
                        first
                        | exact dn c9
                        | (have d9 := c9; try simp at d9
                           refine wa_ (wc_region (w_ (a_ (h := wo_nil (e_ (h := aft_normal (wc_ret (?_))))))))
                           )
                       all_goals first
                       | refine aft_ret ?_
                       | (refine aft_normal ?_
                          refine wa_ (wa_ (wc_region (w_ (m_ (h := w_ (m_ (h := w_ (bE (h := wo_nil (e_ (h := aft_normal (?_))))))))))))
                          refine c_ (h1 := ?_) (h2 := ?_)
                          rotate_right 1
                          focus
                           intro c10
                           first
                           | exact dn c10
                           | (have d10 := c10; try simp at d10
                              refine wc_skip (?_)
                              )
                          rotate_right 1
                          focus
                           intro c10
                           first
                           | exact dn c10
                           | (have d10 := c10; try simp at d10
                              refine wa_ (wc_region (w_ (a_ (h := wo_nil (e_ (h := aft_normal (wc_ret (?_))))))))
                              )
                          all_goals first
                          | refine aft_ret ?_
                          | (refine aft_normal ?_
                             refine wa_ (wc_region (w_ (a_ (h := wo_nil (e_ (h := aft_normal (wc_ret (?_))))))))
                             )
                          )
                       )
                    )
                 )
              )
           )
        )
     )
  all_goals (refine fin_ (hr := (res_tmp rfl res_nil)) (h := ?_); (focus (simp)))
end Go.Proofs.Ytmednhpmcplplaa.Ev
