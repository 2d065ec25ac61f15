/- Part 5 of the proof that the law named in the last part returns true at every argument: an evaluator of the program, shown sound, and its runs. No further conditions. -/
import Derived.Test.YtmednhpmcplplaaML1304
import Derived.Test.YtmednhpmcplplaaRows
namespace Go.Proofs.Ytmednhpmcplplaa.Ev
open Go
set_option maxRecDepth 100000
set_option linter.unusedSimpArgs false
set_option linter.unusedVariables false
set_option maxHeartbeats 2000000
def cmpI (a b : Int) : Int := if a < b then -1 else if b < a then 1 else 0
theorem e_nan (a : Int) : oc.call 203 [.int .i64 a] = some (.bool false, []) := by
  refine fun_s rfl cd203 rfl rfl rfl (by simp; rfl) (by simp; rfl) ?_
  refine wa_ (wc_region (w_ (a_ (h := wo_nil (e_ (h := aft_normal (wa_ (wc_region (w_ (m_ (h := w_ (m_ (h := w_ (bE (h := w_ (a_ (h := wo_nil (e_ (h := ?_)))))))))))))))))))
  refine aft_normal (wc_ret (?_))
  all_goals (refine fin_ (hr := (res_tmp rfl res_nil)) (h := ?_); (focus (first | (simp_all; done) | (simp_all <;> omega) | (simp_all <;> split <;> simp_all <;> omega))))
theorem e_cmp (a b : Int) : oc.call 186 [.int .i64 a, .int .i64 b] = some (.int .i64 (cmpI a b), []) := by
  refine fun_s rfl cd186 rfl rfl rfl (by simp; rfl) (by simp; rfl) ?_
  refine wa_ (wc_region (w_ (a_ (h := wo_nil (e_ (h := aft_normal (wa_ (wc_region (w_ (m_ (h := w_ (ca (hc := e_nan _) (h := w_ (a_ (h := wo_nil (e_ (h := aft_normal (?_))))))))))))))))))
  refine wa_ (wc_region (w_ (m_ (h := w_ (ca (hc := e_nan _) (h := w_ (a_ (h := wo_nil (e_ (h := aft_normal (wa_ (wa_ (wc_region (w_ (m_ (h := wo_nil (e_ (h := ?_))))))))))))))))))
  refine aft_normal (?_)
  refine c_ (h1 := ?_) (h2 := ?_)
  rotate_right 1
  focus
   intro c1
   first
   | exact dn c1
   | (have d1 := c1; try simp at d1
      refine wc_skip (?_)
      )
  rotate_right 1
  focus
   intro c1
   first
   | exact dn c1
   | (have d1 := c1; try simp at d1
      refine wa_ (wa_ (wc_region (w_ (m_ (h := wo_nil (e_ (h := aft_normal (?_))))))))
      refine c_ (h1 := ?_) (h2 := ?_)
      rotate_right 1
      focus
       intro c2
       first
       | exact dn c2
       | (have d2 := c2; try simp at d2
          refine wc_skip (?_)
          )
      rotate_right 1
      focus
       intro c2
       first
       | exact dn c2
       | (have d2 := c2; try simp at d2
          refine wa_ (wc_region (w_ (a_ (h := wo_nil (e_ (h := aft_normal (wc_ret (?_))))))))
          )
      all_goals first
      | refine aft_ret ?_
      | (refine aft_normal ?_
         refine wa_ (wc_region (w_ (a_ (h := wo_nil (e_ (h := aft_normal (wc_ret (?_))))))))
         )
      )
  all_goals first
  | refine aft_ret ?_
  | (refine aft_normal ?_
     refine wa_ (wa_ (wc_region (w_ (m_ (h := wo_nil (e_ (h := aft_normal (?_))))))))
     refine c_ (h1 := ?_) (h2 := ?_)
     rotate_right 1
     focus
      intro c3
      first
      | exact dn c3
      | (have d3 := c3; try simp at d3
         refine wc_skip (?_)
         )
     rotate_right 1
     focus
      intro c3
      first
      | exact dn c3
      | (have d3 := c3; try simp at d3
         refine wa_ (wc_region (w_ (a_ (h := wo_nil (e_ (h := aft_normal (wc_ret (?_))))))))
         )
     all_goals first
     | refine aft_ret ?_
     | (refine aft_normal ?_
        refine wa_ (wa_ (wc_region (w_ (m_ (h := w_ (m_ (h := w_ (b_ (h := wo_nil (e_ (h := aft_normal (?_))))))))))))
        refine c_ (h1 := ?_) (h2 := ?_)
        rotate_right 1
        focus
         intro c4
         first
         | exact dn c4
         | (have d4 := c4; try simp at d4
            refine wc_skip (?_)
            )
        rotate_right 1
        focus
         intro c4
         first
         | exact dn c4
         | (have d4 := c4; try simp at d4
            refine wa_ (wc_region (w_ (a_ (h := wo_nil (e_ (h := aft_normal (wc_ret (?_))))))))
            )
        all_goals first
        | refine aft_ret ?_
        | (refine aft_normal ?_
           refine wa_ (wa_ (wc_region (w_ (m_ (h := w_ (m_ (h := w_ (b_ (h := wo_nil (e_ (h := aft_normal (?_))))))))))))
           refine c_ (h1 := ?_) (h2 := ?_)
           rotate_right 1
           focus
            intro c5
            first
            | exact dn c5
            | (have d5 := c5; try simp at d5
               refine wc_skip (?_)
               )
           rotate_right 1
           focus
            intro c5
            first
            | exact dn c5
            | (have d5 := c5; try simp at d5
               refine wa_ (wc_region (w_ (a_ (h := wo_nil (e_ (h := aft_normal (wc_ret (?_))))))))
               )
           all_goals first
           | refine aft_ret ?_
           | (refine aft_normal ?_
              refine wa_ (wc_region (w_ (a_ (h := wo_nil (e_ (h := aft_normal (wc_ret (?_))))))))
              )
           )
        )
     )
  all_goals (refine fin_ (hr := (res_tmp rfl res_nil)) (h := ?_); (focus (simp [cmpI]; grind)))
theorem l_or (a b : Int) : ∀ i : Nat, (i ≤ 2) → ∀ s, normE 1 (some [3, 6, 7, 8]) s = ⟨[(3, .int .i64 0), (6, .lst false 0 (ints [a, b])), (7, .int .i64 2), (8, .int .i64 i)], [], 1⟩ →
    oc.loop 195 3 s = some (if ([a, b].drop i).all (fun x => decide (x = 0)) = true then (.exit 0, ⟨[(3, .int .i64 0)], [], 1⟩) else (.ret, ⟨[(2, .int .i64 (if i = 0 ∧ a ≠ 0 then a else b)), (3, .int .i64 0)], [], 1⟩)) := by
  refine loop_ind (σ := Nat) (fun i => 2 - i) _ (fun i => ⟨[(3, .int .i64 0), (6, .lst false 0 (ints [a, b])), (7, .int .i64 2), (8, .int .i64 i)], [], 1⟩) _ ?_
  intro i hi ih s hs
  refine loop_s cd195 rfl rfl hs ?_
  refine wa_ (wc_region (w_ (b_ (h := wo_nil (e_ (h := aft_normal (wa_ (?_))))))))
  refine c_ (h1 := ?_) (h2 := ?_)
  rotate_right 1
  focus
   intro c1
   first
   | exact dn c1
   | (have d1 := c1; try simp at d1
      have : i = 2 := (by omega); subst this
      refine wc_exit (?_)
      )
  rotate_right 1
  focus
   intro c1
   first
   | exact dn c1
   | (have d1 := c1; try simp at d1
      have hw := wrap_succ (i := i) (by omega); obtain ⟨x, hx, e1, g1⟩ := ints_cut (l := [a, b]) (i := i) (by simp; omega)
      refine wc_skip (?_)
      )
  all_goals first
  | refine aft_exit ?_
  | (refine aft_normal ?_
     refine wa_ (wc_block (wa_ (wc_region (w_ (x_ (h := w_ (l_ (h := w_ (a_ (h := wo_nil (e_ (h := aft_normal (wa_ (wc_region (w_ (m_ (h := ?_)))))))))))))))))
     refine w_ (m_ (h := w_ (bE (h := wo_nil (e_ (h := aft_normal (?_)))))))
     refine c_ (h1 := ?_) (h2 := ?_)
     rotate_right 1
     focus
      intro c2
      first
      | exact dn c2
      | (have d2 := c2; try simp at d2
         refine wc_skip (?_)
         )
     rotate_right 1
     focus
      intro c2
      first
      | exact dn c2
      | (have d2 := c2; try simp at d2
         refine wa_ (wc_region (w_ (m_ (h := w_ (a_ (h := wo_nil (e_ (h := aft_normal (wc_ret (?_))))))))))
         )
     all_goals first | refine blk_normal ?_ | refine blk_ret ?_
     all_goals first
     | refine aft_ret ?_
     | (refine aft_normal ?_
        refine wc_region (w_ (b_ (h := w_ (m_ (h := wo_nil (e_ (h := ?_)))))))
        )
     )
  all_goals first
  | (refine (ih (i + 1) (by omega) ?_ _ ?_).trans ?_; (focus (first | omega | (simp; done) | (simp; omega))); (focus (simp [normE, hw]; done)); (focus (rcases i with _ | _ | i <;> simp at * <;> grind)))
  | (apply end_leaf (ex := Ext.ret) 1 (some [2, 3]); (focus (simp [normE]; rfl)); (focus (rcases i with _ | _ | i <;> simp at * <;> grind)))
  | (apply end_leaf (ex := (Ext.exit 0)) 1 (some [2, 3]); (focus (simp [normE]; rfl)); (focus (simp)))
theorem e_or (a b : Int) : oc.call 195 [.lst false 0 (ints [a, b])] = some (.int .i64 (if a = 0 then b else a), []) := by
  refine fun_s rfl cd195 rfl rfl rfl (by simp; rfl) (by simp; rfl) ?_
  refine wa_ (wc_region (w_ (a_ (h := wo_nil (e_ (h := aft_normal (wa_ (wc_region (w_ (a_ (h := wo_nil (e_ (h := aft_normal (wa_ (wa_ (?_))))))))))))))))
  refine wc_region (w_ (m_ (h := w_ (le (h := w_ (m_ (h := wo_nil (e_ (h := aft_normal (wc_block (?_)))))))))))
  refine wc_loopI (l_or a b 0 (by omega) _ (by simp [normE])) ?_ ?_
  rotate_right 1
  focus
   intro c1
   skip
  rotate_right 1
  focus
   intro c1
   skip
  all_goals first | refine blk_ret ?_ | refine blk_exit ?_
  all_goals first
  | refine aft_ret ?_
  | (refine aft_normal ?_
     refine wa_ (wc_region (w_ (m_ (h := w_ (a_ (h := wo_nil (e_ (h := aft_normal (wc_ret (?_))))))))))
     )
  all_goals (refine fin_ (hr := (res_tmp rfl res_nil)) (h := ?_); (focus (simp at * <;> grind)))
def byC (a b : Ct) : Int := if cmpI a.pl b.pl = 0 then cmpI a.ep b.ep else cmpI a.pl b.pl
theorem e_byC (a b : Ct) : oc.call 161 [a.v, b.v] = some (.int .i64 (byC a b), []) := by
  refine fun_s rfl cd161 rfl rfl rfl (by simp; rfl) (by simp; rfl) ?_
  refine wa_ (wc_region (w_ (bx (h := w_ (bx (h := w_ (a_ (h := wo_nil (e_ (h := aft_normal (wa_ (wc_draw (y_ (f_ (h := ax_ (h := y_ (l_ (h := ax_ (h := y_ (f_ (h := ax_ (h := ?_))))))))))))))))))))))
  refine y_ (l_ (h := ax_ (h := y_ (ca (hc := e_cmp _ _) (h := ax_ (h := y_ (f_ (h := ax_ (h := y_ (l_ (h := ax_ (h := y_ (f_ (h := ax_ (h := y_ (l_ (h := ax_ (h := y_ (ca (hc := e_cmp _ _) (h := ax_ (h := y_ (bs (h := ax_ (h := y_ (ca (hc := e_or _ _) (h := ax_ (h := y_ (a_ (h := ax_ (h := wo_nil (ed (h := aft_normal (?_)))))))))))))))))))))))))))))))))
  refine wc_ret (?_)
  all_goals (refine fin_ (hr := (res_tmp rfl res_nil)) (h := ?_); (focus (simp [byC])))
def ahead (a b : Ct) : Bool := if a.pl = b.pl then decide (a.ep < b.ep) else decide (a.pl < b.pl)
theorem e_ahead (a b : Ct) : oc.call 103 [a.v, b.v] = some (.bool (ahead a b), []) := by
  refine fun_s rfl cd103 rfl rfl rfl (by simp; rfl) (by simp; rfl) ?_
  refine wa_ (wc_region (w_ (bx (h := w_ (bx (h := w_ (a_ (h := wo_nil (e_ (h := aft_normal (wa_ (wa_ (wc_region (w_ (f_ (h := w_ (l_ (h := ?_))))))))))))))))))
  refine w_ (f_ (h := w_ (l_ (h := w_ (bE (h := wo_nil (e_ (h := aft_normal (?_)))))))))
  refine c_ (h1 := ?_) (h2 := ?_)
  rotate_right 1
  focus
   intro c1
   refine wc_skip (?_)
  rotate_right 1
  focus
   intro c1
   refine wa_ (wc_region (w_ (f_ (h := w_ (l_ (h := w_ (f_ (h := w_ (l_ (h := w_ (b_ (h := w_ (a_ (h := wo_nil (e_ (h := aft_normal (wc_ret (?_))))))))))))))))))
  all_goals first
  | refine aft_ret ?_
  | (refine aft_normal ?_
     refine wa_ (wc_region (w_ (f_ (h := w_ (l_ (h := w_ (f_ (h := w_ (l_ (h := w_ (b_ (h := w_ (a_ (h := wo_nil (e_ (h := aft_normal (wc_ret (?_))))))))))))))))))
     )
  all_goals (refine fin_ (hr := (res_tmp rfl res_nil)) (h := ?_); (focus (simp [ahead] at * <;> grind)))
theorem byC_ahead (a b : Ct) : (0 ≤ byC a b) = (ahead a b = false) := by
  simp only [byC, cmpI, ahead]; grind
theorem ahead_f {a b : Ct} (h : 0 ≤ byC a b) : ahead a b = false := by rw [byC_ahead] at h; exact h
theorem ahead_t {a b : Ct} (h : byC a b < 0) : ahead a b = true := by
  cases h2 : ahead a b with
  | true => rfl
  | false => rw [← byC_ahead] at h2; omega
theorem byC_zero (a b : Ct) : (byC a b = 0) = (a.pl = b.pl ∧ a.ep = b.ep) := by
  simp only [byC, cmpI]; grind
def rightC (pl : List Nd) (c : Ct) : Bool := isPl pl c.pl && (inI c.ep 0 1000 && inI c.n (-1000000000000) 1000000000000)
theorem e_isCount (pl : List Nd) (c : Ct) (hp : pl.length < 2000000) : oc.call 160 [.lst false 0 (nds false 0 pl), c.v] = some (.bool (rightC pl c), []) := by
  refine fun_s rfl cd160 rfl rfl rfl (by simp; rfl) (by simp; rfl) ?_
  refine wa_ (wc_region (w_ (bx (h := w_ (a_ (h := wo_nil (e_ (h := aft_normal (wa_ (wc_region (w_ (m_ (h := w_ (f_ (h := w_ (l_ (h := w_ (ca (hc := e_isPlace pl _ hp) (h := ?_)))))))))))))))))))
  refine w_ (m_ (h := ?_))
  refine gw_ (h1 := ?_) (h2 := ?_)
  rotate_right 1
  focus
   intro c1
   refine go_ (h := go_ (h := go_ (h := ?_)))
  rotate_right 1
  focus
   intro c1
   refine g_ (h := w_ (f_ (h := g_ (h := w_ (l_ (h := g_ (h := w_ (ca (hc := e_in _ _ _) (h := ?_)))))))))
  all_goals
   refine w_ (pk (h := w_ (m_ (h := ?_))))
   refine gw_ (h1 := ?_) (h2 := ?_)
   rotate_right 1
   focus
    intro c2
    refine go_ (h := go_ (h := go_ (h := ?_)))
   rotate_right 1
   focus
    intro c2
    refine g_ (h := w_ (f_ (h := g_ (h := w_ (l_ (h := g_ (h := w_ (ca (hc := e_isWeight _) (h := ?_)))))))))
   all_goals
    refine w_ (pk (h := w_ (a_ (h := wo_nil (e_ (h := ?_))))))
  all_goals first
  | (refine aft_normal ?_
     refine wc_ret (?_)
     )
  all_goals (refine fin_ (hr := (res_tmp rfl res_nil)) (h := ?_); (focus (simp [rightC] at * <;> grind)))
theorem e_l7Right (pl : List Nd) (c : Ct) (hp : pl.length < 2000000) : oc.call 102 [.lst false 0 (nds false 0 pl), c.v] = some (.bool (rightC pl c), []) := by
  refine fun_s rfl cd102 rfl rfl rfl (by simp; rfl) (by simp; rfl) ?_
  refine wa_ (wc_region (w_ (bx (h := w_ (a_ (h := wo_nil (e_ (h := aft_normal (wa_ (wc_region (w_ (m_ (h := w_ (f_ (h := w_ (l_ (h := w_ (ca (hc := e_l7Place pl _ hp) (h := ?_)))))))))))))))))))
  refine w_ (m_ (h := ?_))
  refine gw_ (h1 := ?_) (h2 := ?_)
  rotate_right 1
  focus
   intro c1
   refine go_ (h := go_ (h := go_ (h := ?_)))
  rotate_right 1
  focus
   intro c1
   refine g_ (h := w_ (f_ (h := g_ (h := w_ (l_ (h := g_ (h := w_ (ca (hc := e_l1In _ _ _) (h := ?_)))))))))
  all_goals
   refine w_ (pk (h := w_ (m_ (h := ?_))))
   refine gw_ (h1 := ?_) (h2 := ?_)
   rotate_right 1
   focus
    intro c2
    refine go_ (h := go_ (h := go_ (h := ?_)))
   rotate_right 1
   focus
    intro c2
    refine g_ (h := w_ (f_ (h := g_ (h := w_ (l_ (h := g_ (h := w_ (ca (hc := e_l1Weight _) (h := ?_)))))))))
   all_goals
    refine w_ (pk (h := w_ (a_ (h := wo_nil (e_ (h := ?_))))))
  all_goals first
  | (refine aft_normal ?_
     refine wc_ret (?_)
     )
  all_goals (refine fin_ (hr := (res_tmp rfl res_nil)) (h := ?_); (focus (simp [rightC] at * <;> grind)))
def ctsR (pl : List Nd) : Option Ct → List Ct → Int
  | _, [] => 0
  | p, c :: r => if rightC pl c = false ∨ c.n = 0 then 3 else if (p.elim false fun q => !ahead q c) = true then 1 else ctsR pl (some c) r
def prevAt (l : List Ct) (i : Nat) : Option Ct := if i = 0 then none else l[i - 1]?
theorem prevAt_succ {l : List Ct} {i : Nat} {c : Ct} (h : l[i]? = some c) : prevAt l (i + 1) = some c := by simp [prevAt, h]
theorem prevAt_pos {l : List Ct} {i : Nat} (h0 : 0 < i) (h : i ≤ l.length) (hi : i < 2000000000) : ∃ q, prevAt l i = some q ∧ (cts l)[(IntKind.i64.wrap ((i : Int) - 1)).toNat]? = some q.v ∧ 0 ≤ IntKind.i64.wrap ((i : Int) - 1) := by
  have hw : IntKind.i64.wrap ((i : Int) - 1) = ((i - 1 : Nat) : Int) := by rw [wrap_id (by omega) (by omega)]; omega
  have hlt : i - 1 < l.length := by omega
  refine ⟨l[i - 1], ?_, ?_, by rw [hw]; omega⟩
  · unfold prevAt; rw [if_neg (by omega)]; simp [hlt]
  · rw [hw]; exact cts_at hlt
def ctsF (pl : List Nd) (l : List Ct) : Int := if 200 < l.length then 2 else ctsR pl none l
theorem ctsR_3 {pl : List Nd} {p : Option Ct} {c : Ct} {r : List Ct} (h : rightC pl c = false ∨ c.n = 0) : ctsR pl p (c :: r) = 3 := by rw [ctsR, if_pos h]
theorem ctsR_1 {pl : List Nd} {p : Option Ct} {c : Ct} {r : List Ct} (h : ¬ (rightC pl c = false ∨ c.n = 0)) (h2 : (p.elim false fun q => !ahead q c) = true) : ctsR pl p (c :: r) = 1 := by rw [ctsR, if_neg h, if_pos h2]
theorem ctsR_0 {pl : List Nd} {p : Option Ct} {c : Ct} {r : List Ct} (h : ¬ (rightC pl c = false ∨ c.n = 0)) (h2 : ¬ (p.elim false fun q => !ahead q c) = true) : ctsR pl p (c :: r) = ctsR pl (some c) r := by rw [ctsR, if_neg h, if_neg h2]
theorem l_ctsI (pl : List Nd) (l : List Ct) (hp : pl.length < 2000000) (hl : l.length ≤ 200) : ∀ i : Nat, (i ≤ l.length) → ∀ s, normE 2 (some [0, 1, 10, 11, 12]) s = ⟨[(0, .lst false 0 (nds false 0 pl)), (1, .lst false 0 (cts l)), (10, .lst false 0 (cts l)), (11, .int .i64 l.length), (12, .int .i64 i)], [], 2⟩ →
    oc.loop 105 4 s = some (if ctsR pl (prevAt l i) (l.drop i) = 0 then (.exit 0, ⟨[], [], 2⟩) else (.ret, ⟨[(4, .int .i64 (ctsR pl (prevAt l i) (l.drop i)))], [], 2⟩)) := by
  refine loop_ind (σ := Nat) (fun i => l.length - i) _ (fun i => ⟨[(0, .lst false 0 (nds false 0 pl)), (1, .lst false 0 (cts l)), (10, .lst false 0 (cts l)), (11, .int .i64 l.length), (12, .int .i64 i)], [], 2⟩) _ ?_
  intro i hi ih s hs
  refine loop_s cd105 rfl rfl hs ?_
  refine wa_ (wc_region (w_ (b_ (h := wo_nil (e_ (h := aft_normal (wa_ (?_))))))))
  refine c_ (h1 := ?_) (h2 := ?_)
  rotate_right 1
  focus
   intro c1
   first
   | exact dn c1
   | (have d1 := c1; try simp at d1
      refine wc_exit (?_)
      )
  rotate_right 1
  focus
   intro c1
   first
   | exact dn c1
   | (have d1 := c1; try simp at d1
      have hw := wrap_succ (i := i) (by omega); obtain ⟨c, hx, e1, g1⟩ := cts_cut (l := l) (i := i) (by omega); have hs1 := prevAt_succ hx
      refine wc_skip (?_)
      )
  all_goals first
  | refine aft_exit ?_
  | (refine aft_normal ?_
     refine wa_ (wc_block (wa_ (wc_region (w_ (m_ (h := w_ (x_ (h := w_ (l_ (h := w_ (al (h := w_ (a_ (h := w0 (s_ (h := wo_nil (e_ (h := aft_normal (?_)))))))))))))))))))
     refine wa_ (wa_ (wc_region (w_ (m_ (h := w_ (l_ (h := w_ (ca (hc := e_isCount pl c hp) (h := w_ (u_ (h := w_ (m_ (h := ?_)))))))))))))
     refine gw_ (h1 := ?_) (h2 := ?_)
     rotate_right 1
     focus
      intro c2
      first
      | exact dn c2
      | (have d2 := c2; try simp at d2
         refine go_ (h := go_ (h := go_ (h := ?_)))
         )
     rotate_right 1
     focus
      intro c2
      first
      | exact dn c2
      | (have d2 := c2; try simp at d2
         refine g_ (h := w_ (f_ (h := g_ (h := w_ (l_ (h := g_ (h := w_ (bE (h := ?_)))))))))
         )
     all_goals
      refine w_ (pk (h := wo_nil (e_ (h := ?_))))
     all_goals first
     | (refine aft_normal ?_
        refine c_ (h1 := ?_) (h2 := ?_)
        rotate_right 1
        focus
         intro c3
         first
         | exact dn c3
         | (have d3 := c3; try simp at d3
            refine wc_skip (?_)
            )
        rotate_right 1
        focus
         intro c3
         first
         | exact dn c3
         | (have d3 := c3; try simp at d3
            refine wa_ (wc_region (w_ (a_ (h := wo_nil (e_ (h := aft_normal (wc_ret (?_))))))))
            )
        )
     all_goals first
     | refine aft_ret ?_
     | (refine aft_normal ?_
        refine wa_ (wc_draw (y_ (m_ (h := ax_ (h := y_ (b_ (h := ax_ (h := y_ (m_ (h := ax_ (h := ?_)))))))))))
        refine gw_ (h1 := ?_) (h2 := ?_)
        rotate_right 1
        focus
         intro c4
         first
         | exact dn c4
         | (have d4 := c4; try simp at d4
            refine gd_ (h := gd_ (h := gd_ (h := gd_ (h := gd_ (h := gd_ (h := gd_ (h := gd_ (h := ?_))))))))
            )
        rotate_right 1
        focus
         intro c4
         first
         | exact dn c4
         | (have d4 := c4; try simp at d4
            obtain ⟨q, hq, g2, g3⟩ := prevAt_pos (l := l) (i := i) (by omega) (by omega) (by omega)
            refine g_ (h := y_ (m_ (h := ax_ (h := g_ (h := y_ (m_ (h := ax_ (h := g_ (h := y_ (b_ (h := ax_ (h := g_ (h := y_ (x_ (h := ax_ (h := g_ (h := y_ (l_ (h := ax_ (h := g_ (h := y_ (l_ (h := ax_ (h := g_ (h := y_ (ca (hc := e_byC q c) (h := ax_ (h := g_ (h := y_ (b_ (h := ax_ (h := ?_))))))))))))))))))))))))))))))))
            )
        all_goals
         refine y_ (pk (h := ax_ (h := wo_nil (ed (h := ?_)))))
        all_goals first
        | (refine aft_normal ?_
           refine c_ (h1 := ?_) (h2 := ?_)
           rotate_right 1
           focus
            intro c5
            first
            | exact dn c5
            | (have d5 := c5; try simp at d5
               refine wc_skip (?_)
               )
           rotate_right 1
           focus
            intro c5
            first
            | exact dn c5
            | (have d5 := c5; try simp at d5
               refine wa_ (wc_region (w_ (a_ (h := wo_nil (e_ (h := aft_normal (wc_ret (?_))))))))
               )
           )
        )
     all_goals first | refine blk_normal ?_ | refine blk_ret ?_
     all_goals first
     | refine aft_ret ?_
     | (refine aft_normal ?_
        refine wc_region (w_ (b_ (h := w_ (m_ (h := wo_nil (e_ (h := ?_)))))))
        )
     )
  all_goals first
  | (refine (ih (i + 1) (by omega) ?_ _ ?_).trans ?_; (focus (first | omega | (simp; done) | (simp; omega))); (focus (simp [normE, hw]; done)); (focus (rw [hs1, e1, ctsR_0 (by simp [d2, d3]) (by first | (rw [hq]; simp [ahead_t d5]; done) | (subst d4; simp [prevAt]))])))
  | (apply end_leaf (ex := Ext.ret) 2 (some [4]); (focus (simp [normE]; rfl)); (focus (rw [e1, ctsR_3 (by first | exact .inl d2 | exact .inr d3)]; simp)))
  | (apply end_leaf (ex := Ext.ret) 2 (some [4]); (focus (simp [normE]; rfl)); (focus (rw [e1, ctsR_1 (by simp [d2, d3]) (by rw [hq]; simp [ahead_f d5])]; simp)))
  | (apply end_leaf (ex := (Ext.exit 0)) 2 (some [4]); (focus (simp [normE]; rfl)); (focus (rw [List.drop_eq_nil_of_le (by omega)]; simp [ctsR])))
theorem e_ctsF (pl : List Nd) (l : List Ct) (hp : pl.length < 2000000) : oc.call 105 [.lst false 0 (nds false 0 pl), .lst false 0 (cts l)] = some (.int .i64 (ctsF pl l), []) := by
  refine fun_s rfl cd105 rfl rfl rfl (by simp; rfl) (by simp; rfl) ?_
  refine wa_ (wc_region (w_ (a_ (h := wo_nil (e_ (h := aft_normal (wa_ (wa_ (wc_region (w_ (m_ (h := w_ (le (h := w_ (b_ (h := wo_nil (e_ (h := ?_))))))))))))))))))
  refine aft_normal (?_)
  refine c_ (h1 := ?_) (h2 := ?_)
  rotate_right 1
  focus
   intro c1
   first
   | exact dn c1
   | (have d1 := c1; try simp at d1
      refine wc_skip (?_)
      )
  rotate_right 1
  focus
   intro c1
   first
   | exact dn c1
   | (have d1 := c1; try simp at d1
      refine wa_ (wc_region (w_ (a_ (h := wo_nil (e_ (h := aft_normal (wc_ret (?_))))))))
      )
  all_goals first
  | refine aft_ret ?_
  | (refine aft_normal ?_
     refine wa_ (wa_ (wc_region (w_ (m_ (h := w_ (le (h := w_ (m_ (h := wo_nil (e_ (h := aft_normal (wc_block (?_)))))))))))))
     refine wc_loopI (l_ctsI pl l hp (by omega) 0 (by omega) _ (by simp [normE])) ?_ ?_
     rotate_right 1
     focus
      intro c2
      first
      | exact dn c2
      | (have d2 := c2; try simp at d2
         skip
         )
     rotate_right 1
     focus
      intro c2
      first
      | exact dn c2
      | (have d2 := c2; try simp at d2
         skip
         )
     all_goals first | refine blk_ret ?_ | refine blk_exit ?_
     all_goals first
     | refine aft_ret ?_
     | (refine aft_normal ?_
        refine wa_ (wc_region (w_ (a_ (h := wo_nil (e_ (h := aft_normal (wc_ret (?_))))))))
        )
     )
  all_goals (refine fin_ (hr := (res_tmp rfl res_nil)) (h := ?_); (focus (simp [ctsF, prevAt] at * <;> grind)))
theorem l_ctsS (pl : List Nd) (l : List Ct) (hp : pl.length < 2000000) (hl : l.length ≤ 200) : ∀ i : Nat, (i ≤ l.length) → ∀ s, normE 2 (some [0, 1, 6]) s = ⟨[(0, .lst false 0 (nds false 0 pl)), (1, .lst false 0 (cts l)), (6, .int .i64 i)], [], 2⟩ →
    oc.loop 39 7 s = some (if ctsR pl (prevAt l i) (l.drop i) = 0 then (.exit 0, ⟨[], [], 2⟩) else (.ret, ⟨[(4, .int .i64 (ctsR pl (prevAt l i) (l.drop i)))], [], 2⟩)) := by
  refine loop_ind (σ := Nat) (fun i => l.length - i) _ (fun i => ⟨[(0, .lst false 0 (nds false 0 pl)), (1, .lst false 0 (cts l)), (6, .int .i64 i)], [], 2⟩) _ ?_
  intro i hi ih s hs
  refine loop_s cd39 rfl rfl hs ?_
  refine wa_ (wa_ (wc_region (w_ (m_ (h := w_ (m_ (h := w_ (le (h := w_ (b_ (h := wo_nil (e_ (h := aft_normal (?_))))))))))))))
  refine c_ (h1 := ?_) (h2 := ?_)
  rotate_right 1
  focus
   intro c1
   first
   | exact dn c1
   | (have d1 := c1; try simp at d1
      refine wc_exit (?_)
      )
  rotate_right 1
  focus
   intro c1
   first
   | exact dn c1
   | (have d1 := c1; try simp at d1
      have hw := wrap_succ (i := i) (by omega); obtain ⟨c, hx, e1, g1⟩ := cts_cut (l := l) (i := i) (by omega); have hs1 := prevAt_succ hx
      refine wc_skip (?_)
      )
  all_goals first
  | refine aft_exit ?_
  | (refine aft_normal ?_
     refine wa_ (wc_block (wa_ (wa_ (wc_region (w_ (m_ (h := w_ (m_ (h := w_ (m_ (h := w_ (x_ (h := w_ (l_ (h := w_ (ca (hc := e_l7Right pl c hp) (h := w_ (u_ (h := ?_)))))))))))))))))))
     refine w_ (m_ (h := ?_))
     refine gw_ (h1 := ?_) (h2 := ?_)
     rotate_right 1
     focus
      intro c2
      first
      | exact dn c2
      | (have d2 := c2; try simp at d2
         refine go_ (h := go_ (h := go_ (h := go_ (h := go_ (h := go_ (h := ?_))))))
         )
     rotate_right 1
     focus
      intro c2
      first
      | exact dn c2
      | (have d2 := c2; try simp at d2
         refine g_ (h := w_ (m_ (h := g_ (h := w_ (m_ (h := g_ (h := w_ (x_ (h := g_ (h := w_ (f_ (h := g_ (h := w_ (l_ (h := g_ (h := w_ (bE (h := ?_))))))))))))))))))
         )
     all_goals
      refine w_ (pk (h := wo_nil (e_ (h := ?_))))
     all_goals first
     | (refine aft_normal ?_
        refine c_ (h1 := ?_) (h2 := ?_)
        rotate_right 1
        focus
         intro c3
         first
         | exact dn c3
         | (have d3 := c3; try simp at d3
            refine wc_skip (?_)
            )
        rotate_right 1
        focus
         intro c3
         first
         | exact dn c3
         | (have d3 := c3; try simp at d3
            refine wa_ (wc_region (w_ (a_ (h := wo_nil (e_ (h := aft_normal (wc_ret (?_))))))))
            )
        )
     all_goals first
     | refine aft_ret ?_
     | (refine aft_normal ?_
        refine wa_ (wc_draw (y_ (m_ (h := ax_ (h := y_ (b_ (h := ax_ (h := y_ (m_ (h := ax_ (h := ?_)))))))))))
        refine gw_ (h1 := ?_) (h2 := ?_)
        rotate_right 1
        focus
         intro c4
         first
         | exact dn c4
         | (have d4 := c4; try simp at d4
            refine gd_ (h := gd_ (h := gd_ (h := gd_ (h := gd_ (h := gd_ (h := gd_ (h := gd_ (h := gd_ (h := gd_ (h := gd_ (h := ?_)))))))))))
            )
        rotate_right 1
        focus
         intro c4
         first
         | exact dn c4
         | (have d4 := c4; try simp at d4
            obtain ⟨q, hq, g2, g3⟩ := prevAt_pos (l := l) (i := i) (by omega) (by omega) (by omega)
            refine g_ (h := y_ (m_ (h := ax_ (h := g_ (h := y_ (m_ (h := ax_ (h := g_ (h := y_ (b_ (h := ax_ (h := g_ (h := y_ (x_ (h := ax_ (h := g_ (h := y_ (l_ (h := ax_ (h := g_ (h := y_ (m_ (h := ax_ (h := g_ (h := y_ (m_ (h := ax_ (h := g_ (h := y_ (x_ (h := ax_ (h := g_ (h := y_ (l_ (h := ax_ (h := g_ (h := y_ (ca (hc := e_ahead q c) (h := ax_ (h := g_ (h := y_ (u_ (h := ax_ (h := ?_))))))))))))))))))))))))))))))))))))))))))))
            )
        all_goals
         refine y_ (pk (h := ax_ (h := wo_nil (ed (h := ?_)))))
        all_goals first
        | (refine aft_normal ?_
           refine c_ (h1 := ?_) (h2 := ?_)
           rotate_right 1
           focus
            intro c5
            first
            | exact dn c5
            | (have d5 := c5; try simp at d5
               refine wc_skip (?_)
               )
           rotate_right 1
           focus
            intro c5
            first
            | exact dn c5
            | (have d5 := c5; try simp at d5
               refine wa_ (wc_region (w_ (a_ (h := wo_nil (e_ (h := aft_normal (wc_ret (?_))))))))
               )
           )
        )
     all_goals first | refine blk_normal ?_ | refine blk_ret ?_
     all_goals first
     | refine aft_ret ?_
     | (refine aft_normal ?_
        refine wc_region (w_ (m_ (h := w_ (b_ (h := w_ (a_ (h := wo_nil (e_ (h := ?_)))))))))
        )
     )
  all_goals first
  | (refine (ih (i + 1) (by omega) ?_ _ ?_).trans ?_; (focus (first | omega | (simp; done) | (simp; omega))); (focus (simp [normE, hw]; done)); (focus (rw [hs1, e1, ctsR_0 (by simp [d2, d3]) (by first | (rw [hq]; simp [d5]; done) | (subst d4; simp [prevAt]))])))
  | (apply end_leaf (ex := Ext.ret) 2 (some [4]); (focus (simp [normE]; rfl)); (focus (rw [e1, ctsR_3 (by first | exact .inl d2 | exact .inr d3)]; simp)))
  | (apply end_leaf (ex := Ext.ret) 2 (some [4]); (focus (simp [normE]; rfl)); (focus (rw [e1, ctsR_1 (by simp [d2, d3]) (by rw [hq]; simp [d5])]; simp)))
  | (apply end_leaf (ex := (Ext.exit 0)) 2 (some [4]); (focus (simp [normE]; rfl)); (focus (rw [List.drop_eq_nil_of_le (by omega)]; simp [ctsR])))
def ctsN (pl : List Nd) (l : List Ct) : Int := if (lookN pl).2 = 0 then ctsF pl l else (lookN pl).2
theorem e_ctsFS (pl : List Nd) (l : List Ct) (hp : pl.length < 2000000) (hk : okN pl) : oc.call 39 [.lst false 0 (nds false 0 pl), .lst false 0 (cts l)] = some (.int .i64 (ctsN pl l), []) := by
  refine fun_s rfl cd39 rfl rfl rfl (by simp; rfl) (by simp; rfl) ?_
  refine wa_ (wc_region (w_ (a_ (h := wo_nil (e_ (h := aft_normal (wa_ (wa_ (wc_region (w_ (m_ (h := w_ (ca (hc := e_planS pl hp hk) (h := w_ (a_ (h := wo_nil (e_ (h := ?_))))))))))))))))))
  refine aft_normal (wa_ (wc_region (w_ (m_ (h := w_ (bE (h := wo_nil (e_ (h := aft_normal (?_))))))))))
  refine c_ (h1 := ?_) (h2 := ?_)
  rotate_right 1
  focus
   intro c1
   first
   | exact dn c1
   | (have d1 := c1; try simp at d1
      refine wc_skip (?_)
      )
  rotate_right 1
  focus
   intro c1
   first
   | exact dn c1
   | (have d1 := c1; try simp at d1
      refine wa_ (wc_region (w_ (m_ (h := w_ (a_ (h := wo_nil (e_ (h := aft_normal (wc_ret (?_))))))))))
      )
  all_goals first
  | refine aft_ret ?_
  | (refine aft_normal ?_
     refine wa_ (wa_ (wc_region (w_ (m_ (h := w_ (le (h := w_ (b_ (h := wo_nil (e_ (h := aft_normal (?_))))))))))))
     refine c_ (h1 := ?_) (h2 := ?_)
     rotate_right 1
     focus
      intro c2
      first
      | exact dn c2
      | (have d2 := c2; try simp at d2
         refine wc_skip (?_)
         )
     rotate_right 1
     focus
      intro c2
      first
      | exact dn c2
      | (have d2 := c2; try simp at d2
         refine wa_ (wc_region (w_ (a_ (h := wo_nil (e_ (h := aft_normal (wc_ret (?_))))))))
         )
     all_goals first
     | refine aft_ret ?_
     | (refine aft_normal ?_
        refine wa_ (wa_ (wc_region (w_ (a_ (h := wo_nil (e_ (h := aft_normal (wc_block (?_)))))))))
        refine wc_loopI (l_ctsS pl l hp (by omega) 0 (by omega) _ (by simp [normE])) ?_ ?_
        rotate_right 1
        focus
         intro c3
         first
         | exact dn c3
         | (have d3 := c3; try simp at d3
            skip
            )
        rotate_right 1
        focus
         intro c3
         first
         | exact dn c3
         | (have d3 := c3; try simp at d3
            skip
            )
        all_goals first | refine blk_ret ?_ | refine blk_exit ?_
        all_goals first
        | refine aft_ret ?_
        | (refine aft_normal ?_
           refine wa_ (wc_region (w_ (a_ (h := wo_nil (e_ (h := aft_normal (wc_ret (?_))))))))
           )
        )
     )
  all_goals (refine fin_ (hr := (res_tmp rfl res_nil)) (h := ?_); (focus (clear hk; simp [ctsN, ctsF, prevAt] at * <;> grind)))
theorem e_ctsFI (pl : List Nd) (l : List Ct) (hp : pl.length < 2000000) (hk : okN pl) : oc.call 41 [.lst false 0 (nds false 0 pl), .lst false 0 (cts l)] = some (.int .i64 (ctsN pl l), []) := by
  refine fun_s rfl cd41 rfl rfl rfl (by simp; rfl) (by simp; rfl) ?_
  refine wa_ (wc_region (w_ (a_ (h := wo_nil (e_ (h := aft_normal (wa_ (wa_ (wc_region (w_ (m_ (h := w_ (ca (hc := e_planI pl hp hk) (h := w_ (a_ (h := wo_nil (e_ (h := ?_))))))))))))))))))
  refine aft_normal (wa_ (wc_region (w_ (m_ (h := w_ (bE (h := wo_nil (e_ (h := aft_normal (?_))))))))))
  refine c_ (h1 := ?_) (h2 := ?_)
  rotate_right 1
  focus
   intro c1
   first
   | exact dn c1
   | (have d1 := c1; try simp at d1
      refine wc_skip (?_)
      )
  rotate_right 1
  focus
   intro c1
   first
   | exact dn c1
   | (have d1 := c1; try simp at d1
      refine wa_ (wc_region (w_ (m_ (h := w_ (a_ (h := wo_nil (e_ (h := aft_normal (wc_ret (?_))))))))))
      )
  all_goals first
  | refine aft_ret ?_
  | (refine aft_normal ?_
     refine wa_ (wc_region (w_ (m_ (h := w_ (m_ (h := w_ (ca (hc := e_ctsF pl l hp) (h := w_ (a_ (h := wo_nil (e_ (h := aft_normal (wc_ret (?_))))))))))))))
     )
  all_goals (refine fin_ (hr := (res_tmp rfl res_nil)) (h := ?_); (focus (clear hk; simp [ctsN] at * <;> grind)))
theorem law_countsFault (pl : List Nd) (l : List Ct) (ho : okB pl) (hl : l.length ≤ 140737488351232) : oc.call 7 [.lst false 0 (nds false 0 pl), .lst false 0 (cts l)] = some (.bool true, []) := by
  refine fun_s rfl cd7 rfl rfl rfl (by simp; rfl) (by simp; rfl) ?_
  refine wa_ (wc_region (w_ (a_ (h := wo_nil (e_ (h := aft_normal (wa_ (wc_region (w_ (a_ (h := wo_nil (e_ (h := aft_normal (wa_ (wc_region (?_))))))))))))))))
  refine w_ (m_ (h := w_ (m_ (h := w_ (ca (hc := e_szNS pl 0 1048576 ho (by omega) (by omega)) (h := w_ (a_ (h := wo_nil (e_ (h := aft_normal (wa_ (wa_ (wc_region (w_ (m_ (h := w_ (b_ (h := wo_nil (e_ (h := ?_))))))))))))))))))))
  refine aft_normal (?_)
  refine c_ (h1 := ?_) (h2 := ?_)
  rotate_right 1
  focus
   intro c1
   first
   | exact dn c1
   | (have d1 := c1; try simp at d1
      obtain ⟨h1, h2, h3⟩ := szP_ok (l := pl) (a := 1048576) (by omega) (by omega)
      refine wc_skip (?_)
      )
  rotate_right 1
  focus
   intro c1
   first
   | exact dn c1
   | (have d1 := c1; try simp at d1
      refine wa_ (wc_region (w_ (a_ (h := wo_nil (e_ (h := aft_normal (wc_ret (?_))))))))
      )
  all_goals first
  | refine aft_ret ?_
  | (refine aft_normal ?_
     refine wa_ (wc_region (w_ (m_ (h := w_ (m_ (h := w_ (ca (hc := sz_Cts l (szP pl 1048576) hl (by omega) (by omega)) (h := w_ (a_ (h := wo_nil (e_ (h := aft_normal (wa_ (wa_ (wc_region (w_ (m_ (h := ?_))))))))))))))))))
     refine w_ (b_ (h := wo_nil (e_ (h := aft_normal (?_)))))
     refine c_ (h1 := ?_) (h2 := ?_)
     rotate_right 1
     focus
      intro c2
      first
      | exact dn c2
      | (have d2 := c2; try simp at d2
         obtain ⟨h4, h5⟩ := szI_pos (n := l.length) (a := szP pl 1048576) (by omega)
         refine wc_skip (?_)
         )
     rotate_right 1
     focus
      intro c2
      first
      | exact dn c2
      | (have d2 := c2; try simp at d2
         refine wa_ (wc_region (w_ (a_ (h := wo_nil (e_ (h := aft_normal (wc_ret (?_))))))))
         )
     all_goals first
     | refine aft_ret ?_
     | (refine aft_normal ?_
        refine wa_ (wc_region (w_ (m_ (h := w_ (ca (hc := e_toNS pl 0 h1 h2) (h := w_ (m_ (h := w_ (ca (hc := to_Cts l (by omega)) (h := w_ (ca (hc := e_ctsFS pl l h1 h2) (h := w_ (a_ (h := wo_nil (e_ (h := aft_normal (wa_ (wc_region (?_)))))))))))))))))))
        refine w_ (m_ (h := w_ (ca (hc := e_toNS pl 0 h1 h2) (h := w_ (a_ (h := wo_nil (e_ (h := aft_normal (wa_ (wc_region (w_ (m_ (h := w_ (ca (hc := to_Cts l (by omega)) (h := w_ (a_ (h := wo_nil (e_ (h := aft_normal (?_))))))))))))))))))))
        refine wa_ (wc_region (w_ (m_ (h := w_ (m_ (h := w_ (ca (hc := e_ctsFI pl l h1 h2) (h := w_ (a_ (h := wo_nil (e_ (h := aft_normal (wa_ (wa_ (wc_region (w_ (m_ (h := ?_))))))))))))))))))
        refine w_ (m_ (h := w_ (bE (h := wo_nil (e_ (h := aft_normal (?_)))))))
        refine c_ (h1 := ?_) (h2 := ?_)
        rotate_right 1
        focus
         intro c3
         first
         | exact dn c3
         | (have d3 := c3; try simp at d3
            refine wc_skip (?_)
            )
        rotate_right 1
        focus
         intro c3
         first
         | exact dn c3
         | (have d3 := c3; try simp at d3
            refine wa_ (wc_region (w_ (a_ (h := wo_nil (e_ (h := aft_normal (wc_ret (?_))))))))
            )
        all_goals first
        | refine aft_ret ?_
        | (refine aft_normal ?_
           refine wa_ (wa_ (wc_region (w_ (m_ (h := w_ (m_ (h := w_ (ca (hc := e_toNS pl 0 h1 h2) (h := w_ (ca (hc := e_eqNS pl pl 0 0 h1 h1 h2 h2) (h := w_ (u_ (h := wo_nil (e_ (h := aft_normal (?_))))))))))))))))
           refine c_ (h1 := ?_) (h2 := ?_)
           rotate_right 1
           focus
            intro c4
            first
            | exact dn c4
            | (have d4 := c4; try simp at d4
               refine wc_skip (?_)
               )
           rotate_right 1
           focus
            intro c4
            first
            | exact dn c4
            | (have d4 := c4; try simp at d4
               refine wa_ (wc_region (w_ (a_ (h := wo_nil (e_ (h := aft_normal (wc_ret (?_))))))))
               )
           all_goals first
           | refine aft_ret ?_
           | (refine aft_normal ?_
              refine wa_ (wa_ (wc_region (w_ (m_ (h := w_ (m_ (h := w_ (ca (hc := to_Cts l (by omega)) (h := w_ (ca (hc := eq_Cts l l (by omega) (by omega)) (h := w_ (u_ (h := wo_nil (e_ (h := aft_normal (?_))))))))))))))))
              refine c_ (h1 := ?_) (h2 := ?_)
              rotate_right 1
              focus
               intro c5
               first
               | exact dn c5
               | (have d5 := c5; try simp at d5
                  refine wc_skip (?_)
                  )
              rotate_right 1
              focus
               intro c5
               first
               | exact dn c5
               | (have d5 := c5; try simp at d5
                  refine wa_ (wc_region (w_ (a_ (h := wo_nil (e_ (h := aft_normal (wc_ret (?_))))))))
                  )
              all_goals first
              | refine aft_ret ?_
              | (refine aft_normal ?_
                 refine wa_ (wc_region (w_ (a_ (h := wo_nil (e_ (h := aft_normal (wc_ret (?_))))))))
                 )
              )
           )
        )
     )
  all_goals (refine fin_ (hr := (res_tmp rfl res_nil)) (h := ?_); (focus (simp)))
end Go.Proofs.Ytmednhpmcplplaa.Ev
namespace Go.Proofs.Ytmednhpmcplplaa.Ev
open Go
set_option maxRecDepth 100000
set_option linter.unusedSimpArgs false
set_option linter.unusedVariables false
set_option maxHeartbeats 2000000
theorem ctsR_right {pl : List Nd} : ∀ {l : List Ct} {p : Option Ct}, ctsR pl p l = 0 → ∀ c ∈ l, rightC pl c = true ∧ c.n ≠ 0
  | [], p, _, c, hc => by cases hc
  | x :: r, p, h, c, hc => by
    unfold ctsR at h
    split at h
    · cases h
    · rename_i h1
      split at h
      · cases h
      · rcases List.mem_cons.1 hc with rfl | hc
        · simp at h1; exact h1
        · exact ctsR_right h c hc
theorem ctsF_right {pl : List Nd} {l : List Ct} (h : ctsF pl l = 0) : ∀ c ∈ l, rightC pl c = true ∧ c.n ≠ 0 := by
  unfold ctsF at h
  split at h
  · cases h
  · exact ctsR_right h
theorem right_pl {pl : List Nd} {c : Ct} (h : rightC pl c = true) : 0 ≤ c.pl ∧ c.pl < 2 * pl.length ∧ 0 ≤ c.ep := by
  simp [rightC, isPl, inI] at h; omega
theorem pl_in {pl : List Nd} {a : Int} (h : isPl pl a = true) : 0 ≤ a ∧ a < 2 * pl.length := by
  simp [isPl, inI] at h; omega
def brings (pl : List Nd) (to : Int) (c : Ct) : Bool := decide (0 < c.n) && leadsF pl to (2 * pl.length) c.pl
def frF (P : Ct → Bool) : List Ct → Option Int → Option Int
  | [], o => o
  | c :: r, o => frF P r (if P c = true ∧ (o.elim true fun e => decide (c.ep < e)) = true then some c.ep else o)
theorem frF_ge {P : Ct → Bool} : ∀ {l : List Ct} {o : Option Int}, (∀ c ∈ l, 0 ≤ c.ep) → (∀ e, o = some e → 0 ≤ e) → ∀ e, frF P l o = some e → 0 ≤ e
  | [], o, _, ho, e, h => ho e h
  | c :: r, o, hl, ho, e, h => by
    refine frF_ge (P := P) (l := r) (fun x hx => hl x (List.mem_cons_of_mem _ hx)) ?_ e h
    intro e' he
    split at he
    · cases he; exact hl c (List.mem_cons_self ..)
    · exact ho e' he
theorem frF_t {P : Ct → Bool} {c : Ct} {r : List Ct} {o : Option Int} (h : P c = true) (h2 : (o.elim true fun e => decide (c.ep < e)) = true) : frF P (c :: r) o = frF P r (some c.ep) := by rw [frF, if_pos ⟨h, h2⟩]
theorem frF_f {P : Ct → Bool} {c : Ct} {r : List Ct} {o : Option Int} (h : ¬ (P c = true ∧ (o.elim true fun e => decide (c.ep < e)) = true)) : frF P (c :: r) o = frF P r o := by rw [frF, if_neg h]
theorem l_frI (pl : List Nd) (to : Int) (l : List Ct) (hp : pl.length < 2000000) (hk : okN pl) (W : Wf pl) (hl : l.length < 2000000) (hr : ∀ c ∈ l, rightC pl c = true ∧ c.n ≠ 0) : ∀ x : Nat × (Option Int), (x.1 ≤ l.length) → ∀ s, normE 3 (some [0, 2, 8, 9, 12, 13, 14]) s = ⟨[(0, .lst false 0 (nds false 0 pl)), (2, .int .i64 to), (8, .int .i64 (x.2.getD 0)), (9, .bool x.2.isSome), (12, .lst false 0 (cts l)), (13, .int .i64 l.length), (14, .int .i64 x.1)], [], 3⟩ →
    oc.loop 131 3 s = some (.exit 0, ⟨[(8, .int .i64 ((frF (brings pl to) (l.drop x.1) x.2).getD 0)), (9, .bool (frF (brings pl to) (l.drop x.1) x.2).isSome)], [], 3⟩) := by
  refine loop_ind (σ := Nat × (Option Int)) (fun x => l.length - x.1) _ (fun x => ⟨[(0, .lst false 0 (nds false 0 pl)), (2, .int .i64 to), (8, .int .i64 (x.2.getD 0)), (9, .bool x.2.isSome), (12, .lst false 0 (cts l)), (13, .int .i64 l.length), (14, .int .i64 x.1)], [], 3⟩) _ ?_
  rintro ⟨i, o⟩ hi ih s hs
  simp only at hi
  refine loop_s cd131 rfl rfl hs ?_
  refine wa_ (wc_region (w_ (b_ (h := wo_nil (e_ (h := aft_normal (wa_ (?_))))))))
  refine c_ (h1 := ?_) (h2 := ?_)
  rotate_right 1
  focus
   intro c1
   first
   | exact dn c1
   | (have d1 := c1; try simp at d1
      refine wc_exit (?_)
      )
  rotate_right 1
  focus
   intro c1
   first
   | exact dn c1
   | (have d1 := c1; try simp at d1
      have hw := wrap_succ (i := i) (by omega); obtain ⟨c, hx, e1, g1⟩ := cts_cut (l := l) (i := i) (by omega); obtain ⟨b1, b2, b3⟩ := right_pl (hr c (List.mem_of_getElem? hx)).1
      refine wc_skip (?_)
      )
  all_goals first
  | refine aft_exit ?_
  | (refine aft_normal ?_
     refine wa_ (wc_block (wa_ (wc_region (w_ (x_ (h := w_ (l_ (h := w_ (al (h := w0 (s_ (h := wo_nil (e_ (h := aft_normal (wa_ (wc_region (?_)))))))))))))))))
     refine w_ (f_ (h := w_ (l_ (h := w_ (b_ (h := w_ (m_ (h := ?_))))))))
     refine gw_ (h1 := ?_) (h2 := ?_)
     rotate_right 1
     focus
      intro c2
      first
      | exact dn c2
      | (have d2 := c2; try simp at d2
         refine go_ (h := go_ (h := go_ (h := go_ (h := go_ (h := ?_)))))
         )
     rotate_right 1
     focus
      intro c2
      first
      | exact dn c2
      | (have d2 := c2; try simp at d2
         refine g_ (h := w_ (m_ (h := g_ (h := w_ (f_ (h := g_ (h := w_ (l_ (h := g_ (h := w_ (m_ (h := g_ (h := w_ (ca (hc := e_leads pl to hp hk W (2 * pl.length) c.pl (by omega) (by omega) (by omega)) (h := ?_)))))))))))))))
         )
     all_goals
      refine w_ (pk (h := w_ (m_ (h := ?_))))
      refine gw_ (h1 := ?_) (h2 := ?_)
      rotate_right 1
      focus
       intro c3
       first
       | exact dn c3
       | (have d3 := c3; try simp at d3
          refine go_ (h := go_ (h := go_ (h := ?_)))
          )
      rotate_right 1
      focus
       intro c3
       first
       | exact dn c3
       | (have d3 := c3; try simp at d3
          refine g_ (h := w_ (m_ (h := g_ (h := w_ (u_ (h := g_ (h := w_ (m_ (h := ?_)))))))))
          )
      all_goals
       first
       | (skip
          refine goN (h := goN (h := goN (h := goN (h := ?_))))
          )
       | (refine gw_ (h1 := ?_) (h2 := ?_)
          rotate_right 1
          focus
           intro c4
           first
           | exact dn c4
           | (have d4 := c4; try simp at d4
              refine go_ (h := go_ (h := go_ (h := go_ (h := ?_))))
              )
          rotate_right 1
          focus
           intro c4
           first
           | exact dn c4
           | (have d4 := c4; try simp at d4
              refine g_ (h := w_ (f_ (h := g_ (h := w_ (l_ (h := g_ (h := w_ (m_ (h := g_ (h := w_ (b_ (h := ?_))))))))))))
              )
          )
       all_goals
        first
        | (skip
           refine g_ (h := w_ (pk (h := ?_)))
           )
        | (skip
           refine go_ (h := ?_)
           )
        all_goals
         refine w_ (pk (h := wo_nil (e_ (h := ?_))))
     all_goals first
     | (refine aft_normal ?_
        refine c_ (h1 := ?_) (h2 := ?_)
        rotate_right 1
        focus
         intro c5
         first
         | exact dn c5
         | (have d5 := c5; try simp at d5
            refine wc_skip (?_)
            )
        rotate_right 1
        focus
         intro c5
         first
         | exact dn c5
         | (have d5 := c5; try simp at d5
            refine wc_region (w_ (f_ (h := w_ (l_ (h := w_ (a_ (h := w_ (a_ (h := wo_nil (e_ (h := ?_)))))))))))
            )
        )
     all_goals refine blk_normal ?_
     all_goals first
     | (refine aft_normal ?_
        refine wc_region (w_ (b_ (h := w_ (m_ (h := wo_nil (e_ (h := ?_)))))))
        )
     )
  all_goals first
  | (refine (ih ((i + 1, some c.ep)) (by simp; omega) ?_ _ ?_).trans ?_; (focus (first | omega | (simp; done) | (simp; omega))); (focus (simp [normE, hw]; done)); (focus (simp only [e1]; rw [frF_t (by simp [brings, d2, d3]) (by first | (subst d4; rfl) | (obtain ⟨e, rfl⟩ := Option.isSome_iff_exists.1 d4; simp at d5 ⊢; omega))])))
  | (refine (ih ((i + 1, o)) (by simp; omega) ?_ _ ?_).trans ?_; (focus (first | omega | (simp; done) | (simp; omega))); (focus (simp [normE, hw]; done)); (focus (simp only [e1]; rw [frF_f (by first | (simp [brings, Int.not_lt.2 d2]; done) | (simp [brings, d3]; done) | (obtain ⟨e, rfl⟩ := Option.isSome_iff_exists.1 d4; simp at d5 ⊢; intro _; omega))])))
  | (apply end_leaf (ex := (Ext.exit 0)) 3 (some [8, 9]); (focus (simp [normE]; rfl)); (focus (simp only [List.drop_eq_nil_of_le (show l.length ≤ i by omega), frF])))
def frN (pl : List Nd) (l : List Ct) (to : Int) : Option Int := frF (brings pl to) l none
theorem frN_ge {pl : List Nd} {l : List Ct} {to e : Int} (hr : ∀ c ∈ l, rightC pl c = true ∧ c.n ≠ 0) (h : frN pl l to = some e) : 0 ≤ e :=
  frF_ge (fun c hc => (right_pl (hr c hc).1).2.2) (fun e he => by cases he) e h
theorem e_frI (pl : List Nd) (l : List Ct) (to : Int) (hp : pl.length < 2000000) (hk : okN pl) (W : Wf pl) (hl : l.length < 2000000) (hr : ∀ c ∈ l, rightC pl c = true ∧ c.n ≠ 0) : oc.call 131 [.lst false 0 (nds false 0 pl), .lst false 0 (cts l), .int .i64 to] = some (.tup [.int .i64 ((frN pl l to).getD 0), .bool (frN pl l to).isSome], []) := by
  refine fun_s rfl cd131 rfl rfl rfl (by simp; rfl) (by simp; rfl) ?_
  refine wa_ (wc_region (w_ (a_ (h := w_ (a_ (h := wo_nil (e_ (h := aft_normal (wa_ (wc_region (w_ (a_ (h := w_ (a_ (h := wo_nil (e_ (h := aft_normal (?_))))))))))))))))))
  refine wa_ (wa_ (wc_region (w_ (m_ (h := w_ (le (h := w_ (m_ (h := wo_nil (e_ (h := aft_normal (wc_block (?_)))))))))))))
  refine wc_loop (l_frI pl to l hp hk W hl hr (0, none) (by simp) _ (by simp [normE])) ?_
  refine blk_exit (aft_normal (wa_ (wc_region (w_ (m_ (h := w_ (m_ (h := w_ (a_ (h := w_ (a_ (h := wo_nil (e_ (h := aft_normal (wc_ret (?_))))))))))))))))
  all_goals (refine fin_ (hr := (res_tmp rfl (res_tmp rfl res_nil))) (h := ?_); (focus (simp [frN])))
theorem l_frS (pl : List Nd) (to : Int) (l : List Ct) (hp : pl.length < 2000000) (hk : okN pl) (W : Wf pl) (hl : l.length < 2000000) (hr : ∀ c ∈ l, rightC pl c = true ∧ c.n ≠ 0) : ∀ x : Nat × (Option Int), (x.1 ≤ l.length ∧ ∀ e, x.2 = some e → 0 ≤ e) → ∀ s, normE 3 (some [0, 1, 2, 7, 8]) s = ⟨[(0, .lst false 0 (nds false 0 pl)), (1, .lst false 0 (cts l)), (2, .int .i64 to), (7, .int .i64 (x.2.getD (-1))), (8, .int .i64 x.1)], [], 3⟩ →
    oc.loop 130 3 s = some (.exit 0, ⟨[(7, .int .i64 ((frF (brings pl to) (l.drop x.1) x.2).getD (-1)))], [], 3⟩) := by
  refine loop_ind (σ := Nat × (Option Int)) (fun x => l.length - x.1) _ (fun x => ⟨[(0, .lst false 0 (nds false 0 pl)), (1, .lst false 0 (cts l)), (2, .int .i64 to), (7, .int .i64 (x.2.getD (-1))), (8, .int .i64 x.1)], [], 3⟩) _ ?_
  rintro ⟨i, o⟩ hi ih s hs
  simp only at hi
  refine loop_s cd130 rfl rfl hs ?_
  obtain ⟨hi, ho⟩ := hi
  refine wa_ (wa_ (wc_region (w_ (m_ (h := w_ (m_ (h := w_ (le (h := w_ (b_ (h := wo_nil (e_ (h := aft_normal (?_))))))))))))))
  refine c_ (h1 := ?_) (h2 := ?_)
  rotate_right 1
  focus
   intro c1
   first
   | exact dn c1
   | (have d1 := c1; try simp at d1
      refine wc_exit (?_)
      )
  rotate_right 1
  focus
   intro c1
   first
   | exact dn c1
   | (have d1 := c1; try simp at d1
      have hw := wrap_succ (i := i) (by omega); obtain ⟨c, hx, e1, g1⟩ := cts_cut (l := l) (i := i) (by omega); obtain ⟨b1, b2, b3⟩ := right_pl (hr c (List.mem_of_getElem? hx)).1
      refine wc_skip (?_)
      )
  all_goals first
  | refine aft_exit ?_
  | (refine aft_normal ?_
     refine wa_ (wc_block (wa_ (wc_region (w_ (m_ (h := w_ (m_ (h := w_ (x_ (h := w_ (f_ (h := w_ (l_ (h := w_ (b_ (h := w_ (m_ (h := ?_))))))))))))))))))
     refine gw_ (h1 := ?_) (h2 := ?_)
     rotate_right 1
     focus
      intro c2
      first
      | exact dn c2
      | (have d2 := c2; try simp at d2
         refine go_ (h := go_ (h := go_ (h := go_ (h := go_ (h := go_ (h := go_ (h := go_ (h := ?_))))))))
         )
     rotate_right 1
     focus
      intro c2
      first
      | exact dn c2
      | (have d2 := c2; try simp at d2
         refine g_ (h := w_ (m_ (h := g_ (h := w_ (m_ (h := g_ (h := w_ (m_ (h := g_ (h := w_ (x_ (h := g_ (h := w_ (f_ (h := g_ (h := w_ (l_ (h := g_ (h := w_ (m_ (h := g_ (h := w_ (ca (hc := e_leadsS pl to hp hk W (2 * pl.length) c.pl (by omega) (by omega) (by omega)) (h := ?_))))))))))))))))))))))))
         )
     all_goals
      refine w_ (pk (h := w_ (m_ (h := ?_))))
      refine gw_ (h1 := ?_) (h2 := ?_)
      rotate_right 1
      focus
       intro c3
       first
       | exact dn c3
       | (have d3 := c3; try simp at d3
          refine go_ (h := go_ (h := go_ (h := ?_)))
          )
      rotate_right 1
      focus
       intro c3
       first
       | exact dn c3
       | (have d3 := c3; try simp at d3
          refine g_ (h := w_ (m_ (h := g_ (h := w_ (b_ (h := g_ (h := w_ (m_ (h := ?_)))))))))
          )
      all_goals
       first
       | (skip
          refine goN (h := goN (h := goN (h := goN (h := goN (h := goN (h := goN (h := ?_)))))))
          )
       | (refine gw_ (h1 := ?_) (h2 := ?_)
          rotate_right 1
          focus
           intro c4
           first
           | exact dn c4
           | (have d4 := c4; try simp at d4
              refine go_ (h := go_ (h := go_ (h := go_ (h := go_ (h := go_ (h := go_ (h := ?_)))))))
              )
          rotate_right 1
          focus
           intro c4
           first
           | exact dn c4
           | (have d4 := c4; try simp at d4
              refine g_ (h := w_ (m_ (h := g_ (h := w_ (m_ (h := g_ (h := w_ (x_ (h := g_ (h := w_ (f_ (h := g_ (h := w_ (l_ (h := g_ (h := w_ (m_ (h := g_ (h := w_ (b_ (h := ?_)))))))))))))))))))))
              )
          )
       all_goals
        first
        | (skip
           refine g_ (h := w_ (pk (h := ?_)))
           )
        | (skip
           refine go_ (h := ?_)
           )
        all_goals
         refine w_ (pk (h := wo_nil (e_ (h := ?_))))
     all_goals first
     | (refine aft_normal ?_
        refine c_ (h1 := ?_) (h2 := ?_)
        rotate_right 1
        focus
         intro c5
         first
         | exact dn c5
         | (have d5 := c5; try simp at d5
            refine wc_skip (?_)
            )
        rotate_right 1
        focus
         intro c5
         first
         | exact dn c5
         | (have d5 := c5; try simp at d5
            refine wc_region (w_ (m_ (h := w_ (m_ (h := w_ (x_ (h := w_ (f_ (h := w_ (l_ (h := w_ (a_ (h := wo_nil (e_ (h := ?_)))))))))))))))
            )
        )
     all_goals refine blk_normal ?_
     all_goals first
     | (refine aft_normal ?_
        refine wc_region (w_ (m_ (h := w_ (b_ (h := w_ (a_ (h := wo_nil (e_ (h := ?_)))))))))
        )
     )
  all_goals first
  | (refine (ih ((i + 1, some c.ep)) (⟨by simp; omega, by simp; omega⟩) ?_ _ ?_).trans ?_; (focus (first | omega | (simp; done) | (simp; omega))); (focus (simp [normE, hw]; done)); (focus (simp only [e1]; rw [frF_t (by simp [brings, d2, d3]) (by cases o with | none => rfl | some e => (have := ho e rfl; simp at d4 ⊢; first | omega | (simp at d5; omega)))])))
  | (refine (ih ((i + 1, o)) (⟨by simp; omega, ho⟩) ?_ _ ?_).trans ?_; (focus (first | omega | (simp; done) | (simp; omega))); (focus (simp [normE, hw]; done)); (focus (simp only [e1]; rw [frF_f (by first | (simp [brings, Int.not_lt.2 d2]; done) | (simp [brings, d3]; done) | (cases o with | none => (simp at d4) | some e => (simp at d5 ⊢; intro _; omega)))])))
  | (apply end_leaf (ex := (Ext.exit 0)) 3 (some [7]); (focus (simp [normE]; rfl)); (focus (simp only [List.drop_eq_nil_of_le (show l.length ≤ i by omega), frF])))
theorem e_frS (pl : List Nd) (l : List Ct) (to : Int) (hp : pl.length < 2000000) (hk : okN pl) (W : Wf pl) (hl : l.length < 2000000) (hr : ∀ c ∈ l, rightC pl c = true ∧ c.n ≠ 0) : oc.call 130 [.lst false 0 (nds false 0 pl), .lst false 0 (cts l), .int .i64 to] = some (.int .i64 ((frN pl l to).getD (-1)), []) := by
  refine fun_s rfl cd130 rfl rfl rfl (by simp; rfl) (by simp; rfl) ?_
  refine wa_ (wc_region (w_ (a_ (h := wo_nil (e_ (h := aft_normal (wa_ (wc_region (w_ (a_ (h := wo_nil (e_ (h := aft_normal (wa_ (wa_ (?_))))))))))))))))
  refine wc_region (w_ (a_ (h := wo_nil (e_ (h := aft_normal (wc_block (?_)))))))
  refine wc_loop (l_frS pl to l hp hk W hl hr (0, none) (by simp) _ (by simp [normE])) ?_
  refine blk_exit (aft_normal (wa_ (wc_region (w_ (m_ (h := w_ (a_ (h := wo_nil (e_ (h := aft_normal (wc_ret (?_))))))))))))
  all_goals (refine fin_ (hr := (res_tmp rfl res_nil)) (h := ?_); (focus (simp [frN])))
def pastN (pl : List Nd) (l : List Ct) (to ep : Int) : Bool := (frN pl l to).elim true fun e => decide (ep < e)
theorem e_isPast (pl : List Nd) (l : List Ct) (to ep : Int) (hp : pl.length < 2000000) (hk : okN pl) (W : Wf pl) (hl : l.length < 2000000) (hr : ∀ c ∈ l, rightC pl c = true ∧ c.n ≠ 0) : oc.call 129 [.lst false 0 (nds false 0 pl), .lst false 0 (cts l), .int .i64 to, .int .i64 ep] = some (.bool (pastN pl l to ep), []) := by
  refine fun_s rfl cd129 rfl rfl rfl (by simp; rfl) (by simp; rfl) ?_
  refine wa_ (wc_region (w_ (a_ (h := wo_nil (e_ (h := aft_normal (wa_ (wc_region (w_ (m_ (h := w_ (m_ (h := w_ (m_ (h := w_ (ca (hc := e_frI pl l to hp hk W hl hr) (h := w_ (m_ (h := ?_)))))))))))))))))))
  refine w_ (ex (h := w_ (ex (h := w_ (a_ (h := w_ (a_ (h := wo_nil (e_ (h := aft_normal (wa_ (wc_region (w_ (m_ (h := w_ (u_ (h := w_ (m_ (h := ?_)))))))))))))))))))
  refine gw_ (h1 := ?_) (h2 := ?_)
  rotate_right 1
  focus
   intro c1
   refine go_ (h := go_ (h := go_ (h := ?_)))
  rotate_right 1
  focus
   intro c1
   refine g_ (h := w_ (m_ (h := g_ (h := w_ (m_ (h := g_ (h := w_ (b_ (h := ?_)))))))))
  all_goals
   refine w_ (pk (h := w_ (a_ (h := wo_nil (e_ (h := ?_))))))
  all_goals first
  | (refine aft_normal ?_
     refine wc_ret (?_)
     )
  all_goals (refine fin_ (hr := (res_tmp rfl res_nil)) (h := ?_); (focus (clear hk W hr; unfold pastN; cases h : frN pl l to <;> simp [h] at *)))
theorem e_l7Past (pl : List Nd) (l : List Ct) (to ep : Int) (hp : pl.length < 2000000) (hk : okN pl) (W : Wf pl) (hl : l.length < 2000000) (hr : ∀ c ∈ l, rightC pl c = true ∧ c.n ≠ 0) : oc.call 128 [.lst false 0 (nds false 0 pl), .lst false 0 (cts l), .int .i64 to, .int .i64 ep] = some (.bool (pastN pl l to ep), []) := by
  refine fun_s rfl cd128 rfl rfl rfl (by simp; rfl) (by simp; rfl) ?_
  refine wa_ (wc_region (w_ (a_ (h := wo_nil (e_ (h := aft_normal (wa_ (wc_region (w_ (m_ (h := w_ (m_ (h := w_ (m_ (h := w_ (ca (hc := e_frS pl l to hp hk W hl hr) (h := w_ (a_ (h := ?_)))))))))))))))))))
  refine wo_nil (e_ (h := aft_normal (wa_ (wc_region (w_ (m_ (h := w_ (b_ (h := w_ (m_ (h := ?_)))))))))))
  refine gw_ (h1 := ?_) (h2 := ?_)
  rotate_right 1
  focus
   intro c1
   refine go_ (h := go_ (h := go_ (h := ?_)))
  rotate_right 1
  focus
   intro c1
   refine g_ (h := w_ (m_ (h := g_ (h := w_ (m_ (h := g_ (h := w_ (b_ (h := ?_)))))))))
  all_goals
   refine w_ (pk (h := w_ (a_ (h := wo_nil (e_ (h := ?_))))))
  all_goals first
  | (refine aft_normal ?_
     refine wc_ret (?_)
     )
  all_goals (refine fin_ (hr := (res_tmp rfl res_nil)) (h := ?_); (focus (have hge : ∀ e, frN pl l to = some e → 0 ≤ e := (fun e he => frN_ge hr he); clear hk W hr; unfold pastN; cases h : frN pl l to <;> simp [h] at * <;> omega)))
def pastAtN (pl : List Nd) (l : List Ct) (to ep : Int) : Bool := decide (ctsN pl l = 0) && (isPl pl to && pastN pl l to ep)
theorem ctsN_zero {pl : List Nd} {l : List Ct} (h : ctsN pl l = 0) : (lookN pl).2 = 0 ∧ ctsF pl l = 0 := by
  unfold ctsN at h; split at h
  · exact ⟨‹_›, h⟩
  · exact absurd h ‹_›
theorem e_pastAtI (pl : List Nd) (l : List Ct) (to ep : Int) (hp : pl.length < 2000000) (hk : okN pl) (hl : l.length < 2000000) : oc.call 63 [.lst false 0 (nds false 0 pl), .lst false 0 (cts l), .int .i64 to, .int .i64 ep] = some (.bool (pastAtN pl l to ep), []) := by
  refine fun_s rfl cd63 rfl rfl rfl (by simp; rfl) (by simp; rfl) ?_
  refine wa_ (wc_region (w_ (a_ (h := wo_nil (e_ (h := aft_normal (wa_ (wc_region (w_ (m_ (h := w_ (m_ (h := w_ (ca (hc := e_ctsFI pl l hp hk) (h := w_ (bE (h := w_ (m_ (h := ?_)))))))))))))))))))
  refine gw_ (h1 := ?_) (h2 := ?_)
  rotate_right 1
  focus
   intro c1
   first
   | exact dn c1
   | (have d1 := c1; try simp at d1
      refine go_ (h := go_ (h := go_ (h := ?_)))
      )
  rotate_right 1
  focus
   intro c1
   first
   | exact dn c1
   | (have d1 := c1; try simp at d1
      refine g_ (h := w_ (m_ (h := g_ (h := w_ (m_ (h := g_ (h := w_ (ca (hc := e_isPlace pl _ hp) (h := ?_)))))))))
      )
  all_goals
   refine w_ (pk (h := w_ (m_ (h := ?_))))
   refine gw_ (h1 := ?_) (h2 := ?_)
   rotate_right 1
   focus
    intro c2
    first
    | exact dn c2
    | (have d2 := c2; try simp at d2
       refine go_ (h := go_ (h := go_ (h := go_ (h := go_ (h := ?_)))))
       )
   rotate_right 1
   focus
    intro c2
    first
    | exact dn c2
    | (have d2 := c2; try simp at d2
       refine g_ (h := w_ (m_ (h := g_ (h := w_ (m_ (h := g_ (h := w_ (m_ (h := g_ (h := w_ (m_ (h := g_ (h := w_ (ca (hc := e_isPast pl l to ep hp hk (look_wf (ctsN_zero d1).1) hl (ctsF_right (ctsN_zero d1).2)) (h := ?_)))))))))))))))
       )
   all_goals
    refine w_ (pk (h := w_ (a_ (h := wo_nil (e_ (h := ?_))))))
  all_goals first
  | (refine aft_normal ?_
     refine wc_ret (?_)
     )
  all_goals (refine fin_ (hr := (res_tmp rfl res_nil)) (h := ?_); (focus (clear hk; simp [pastAtN] at * <;> grind)))
theorem e_pastAtS (pl : List Nd) (l : List Ct) (to ep : Int) (hp : pl.length < 2000000) (hk : okN pl) (hl : l.length < 2000000) : oc.call 62 [.lst false 0 (nds false 0 pl), .lst false 0 (cts l), .int .i64 to, .int .i64 ep] = some (.bool (pastAtN pl l to ep), []) := by
  refine fun_s rfl cd62 rfl rfl rfl (by simp; rfl) (by simp; rfl) ?_
  refine wa_ (wc_region (w_ (a_ (h := wo_nil (e_ (h := aft_normal (wa_ (wc_region (w_ (m_ (h := w_ (m_ (h := w_ (ca (hc := e_ctsFS pl l hp hk) (h := w_ (bE (h := w_ (m_ (h := ?_)))))))))))))))))))
  refine gw_ (h1 := ?_) (h2 := ?_)
  rotate_right 1
  focus
   intro c1
   first
   | exact dn c1
   | (have d1 := c1; try simp at d1
      refine go_ (h := go_ (h := go_ (h := ?_)))
      )
  rotate_right 1
  focus
   intro c1
   first
   | exact dn c1
   | (have d1 := c1; try simp at d1
      refine g_ (h := w_ (m_ (h := g_ (h := w_ (m_ (h := g_ (h := w_ (ca (hc := e_l7Place pl _ hp) (h := ?_)))))))))
      )
  all_goals
   refine w_ (pk (h := w_ (m_ (h := ?_))))
   refine gw_ (h1 := ?_) (h2 := ?_)
   rotate_right 1
   focus
    intro c2
    first
    | exact dn c2
    | (have d2 := c2; try simp at d2
       refine go_ (h := go_ (h := go_ (h := go_ (h := go_ (h := ?_)))))
       )
   rotate_right 1
   focus
    intro c2
    first
    | exact dn c2
    | (have d2 := c2; try simp at d2
       refine g_ (h := w_ (m_ (h := g_ (h := w_ (m_ (h := g_ (h := w_ (m_ (h := g_ (h := w_ (m_ (h := g_ (h := w_ (ca (hc := e_l7Past pl l to ep hp hk (look_wf (ctsN_zero d1).1) hl (ctsF_right (ctsN_zero d1).2)) (h := ?_)))))))))))))))
       )
   all_goals
    refine w_ (pk (h := w_ (a_ (h := wo_nil (e_ (h := ?_))))))
  all_goals first
  | (refine aft_normal ?_
     refine wc_ret (?_)
     )
  all_goals (refine fin_ (hr := (res_tmp rfl res_nil)) (h := ?_); (focus (clear hk; simp [pastAtN] at * <;> grind)))
def frAtN (pl : List Nd) (l : List Ct) (to : Int) : Int × Int := if ctsN pl l = 0 then (if isPl pl to = true then (frN pl l to).elim (4, 0) fun e => (0, e) else (3, 0)) else (ctsN pl l, 0)
theorem e_frAtI (pl : List Nd) (l : List Ct) (to : Int) (hp : pl.length < 2000000) (hk : okN pl) (hl : l.length < 2000000) : oc.call 65 [.lst false 0 (nds false 0 pl), .lst false 0 (cts l), .int .i64 to] = some (.agg [.int .i64 (frAtN pl l to).1, .int .i64 (frAtN pl l to).2], []) := by
  refine fun_s rfl cd65 rfl rfl rfl (by simp; rfl) (by simp; rfl) ?_
  refine wa_ (wc_region (w_ (al (h := wo_nil (e_ (h := aft_normal (wa_ (wa_ (wc_region (w_ (m_ (h := w_ (m_ (h := w_ (ca (hc := e_ctsFI pl l hp hk) (h := w_ (a_ (h := ?_))))))))))))))))))
  refine wo_nil (e_ (h := aft_normal (wa_ (wc_region (w_ (m_ (h := w_ (bE (h := wo_nil (e_ (h := aft_normal (?_))))))))))))
  refine c_ (h1 := ?_) (h2 := ?_)
  rotate_right 1
  focus
   intro c1
   first
   | exact dn c1
   | (have d1 := c1; try simp at d1
      refine wc_skip (?_)
      )
  rotate_right 1
  focus
   intro c1
   first
   | exact dn c1
   | (have d1 := c1; try simp at d1
      refine wa_ (wc_region (w_ (m_ (h := w_ (bd (h := w0 (s_ (h := wo_nil (e_ (h := aft_normal (wc_ret (?_))))))))))))
      )
  all_goals first
  | refine aft_ret ?_
  | (refine aft_normal ?_
     refine wa_ (wa_ (wc_region (w_ (m_ (h := w_ (m_ (h := w_ (ca (hc := e_isPlace pl _ hp) (h := w_ (u_ (h := wo_nil (e_ (h := aft_normal (?_))))))))))))))
     refine c_ (h1 := ?_) (h2 := ?_)
     rotate_right 1
     focus
      intro c2
      first
      | exact dn c2
      | (have d2 := c2; try simp at d2
         refine wc_skip (?_)
         )
     rotate_right 1
     focus
      intro c2
      first
      | exact dn c2
      | (have d2 := c2; try simp at d2
         refine wa_ (wc_region (w_ (bd (h := w0 (s_ (h := wo_nil (e_ (h := aft_normal (wc_ret (?_))))))))))
         )
     all_goals first
     | refine aft_ret ?_
     | (refine aft_normal ?_
        refine wa_ (wc_region (w_ (m_ (h := w_ (m_ (h := w_ (m_ (h := w_ (ca (hc := e_frI pl l to hp hk (look_wf (ctsN_zero d1).1) hl (ctsF_right (ctsN_zero d1).2)) (h := w_ (m_ (h := w_ (ex (h := w_ (ex (h := w_ (a_ (h := w_ (a_ (h := wo_nil (e_ (h := ?_))))))))))))))))))))))
        refine aft_normal (wa_ (wa_ (wc_region (w_ (m_ (h := w_ (u_ (h := wo_nil (e_ (h := aft_normal (?_)))))))))))
        refine c_ (h1 := ?_) (h2 := ?_)
        rotate_right 1
        focus
         intro c3
         first
         | exact dn c3
         | (have d3 := c3; try simp at d3
            refine wc_skip (?_)
            )
        rotate_right 1
        focus
         intro c3
         first
         | exact dn c3
         | (have d3 := c3; try simp at d3
            refine wa_ (wc_region (w_ (bd (h := w0 (s_ (h := wo_nil (e_ (h := aft_normal (wc_ret (?_))))))))))
            )
        all_goals first
        | refine aft_ret ?_
        | (refine aft_normal ?_
           refine wa_ (wc_region (w_ (m_ (h := w_ (bd (h := w0 (s_ (h := wo_nil (e_ (h := aft_normal (wc_ret (?_))))))))))))
           )
        )
     )
  all_goals (refine fin_ (hr := (res_cell (tys_ok.zero _ _ rfl) rfl (by simp; rfl) (by rfl) res_nil)) (h := ?_); (focus (clear hk; unfold frAtN; cases h : frN pl l to <;> simp_all)))
theorem e_frAtS (pl : List Nd) (l : List Ct) (to : Int) (hp : pl.length < 2000000) (hk : okN pl) (hl : l.length < 2000000) : oc.call 64 [.lst false 0 (nds false 0 pl), .lst false 0 (cts l), .int .i64 to] = some (.agg [.int .i64 (frAtN pl l to).1, .int .i64 (frAtN pl l to).2], []) := by
  refine fun_s rfl cd64 rfl rfl rfl (by simp; rfl) (by simp; rfl) ?_
  refine wa_ (wc_region (w_ (al (h := wo_nil (e_ (h := aft_normal (wa_ (wa_ (wc_region (w_ (m_ (h := w_ (m_ (h := w_ (ca (hc := e_ctsFS pl l hp hk) (h := w_ (a_ (h := ?_))))))))))))))))))
  refine wo_nil (e_ (h := aft_normal (wa_ (wc_region (w_ (m_ (h := w_ (bE (h := wo_nil (e_ (h := aft_normal (?_))))))))))))
  refine c_ (h1 := ?_) (h2 := ?_)
  rotate_right 1
  focus
   intro c1
   first
   | exact dn c1
   | (have d1 := c1; try simp at d1
      refine wc_skip (?_)
      )
  rotate_right 1
  focus
   intro c1
   first
   | exact dn c1
   | (have d1 := c1; try simp at d1
      refine wa_ (wc_region (w_ (m_ (h := w_ (bd (h := w0 (s_ (h := wo_nil (e_ (h := aft_normal (wc_ret (?_))))))))))))
      )
  all_goals first
  | refine aft_ret ?_
  | (refine aft_normal ?_
     refine wa_ (wa_ (wc_region (w_ (m_ (h := w_ (m_ (h := w_ (ca (hc := e_l7Place pl _ hp) (h := w_ (u_ (h := wo_nil (e_ (h := aft_normal (?_))))))))))))))
     refine c_ (h1 := ?_) (h2 := ?_)
     rotate_right 1
     focus
      intro c2
      first
      | exact dn c2
      | (have d2 := c2; try simp at d2
         refine wc_skip (?_)
         )
     rotate_right 1
     focus
      intro c2
      first
      | exact dn c2
      | (have d2 := c2; try simp at d2
         refine wa_ (wc_region (w_ (bd (h := w0 (s_ (h := wo_nil (e_ (h := aft_normal (wc_ret (?_))))))))))
         )
     all_goals first
     | refine aft_ret ?_
     | (refine aft_normal ?_
        refine wa_ (wc_region (w_ (m_ (h := w_ (m_ (h := w_ (m_ (h := w_ (ca (hc := e_frS pl l to hp hk (look_wf (ctsN_zero d1).1) hl (ctsF_right (ctsN_zero d1).2)) (h := w_ (a_ (h := wo_nil (e_ (h := aft_normal (wa_ (wa_ (wc_region (?_))))))))))))))))))
        refine w_ (m_ (h := w_ (b_ (h := wo_nil (e_ (h := aft_normal (?_)))))))
        refine c_ (h1 := ?_) (h2 := ?_)
        rotate_right 1
        focus
         intro c3
         first
         | exact dn c3
         | (have d3 := c3; try simp at d3
            refine wc_skip (?_)
            )
        rotate_right 1
        focus
         intro c3
         first
         | exact dn c3
         | (have d3 := c3; try simp at d3
            refine wa_ (wc_region (w_ (bd (h := w0 (s_ (h := wo_nil (e_ (h := aft_normal (wc_ret (?_))))))))))
            )
        all_goals first
        | refine aft_ret ?_
        | (refine aft_normal ?_
           refine wa_ (wc_region (w_ (m_ (h := w_ (bd (h := w0 (s_ (h := wo_nil (e_ (h := aft_normal (wc_ret (?_))))))))))))
           )
        )
     )
  all_goals (refine fin_ (hr := (res_cell (tys_ok.zero _ _ rfl) rfl (by simp; rfl) (by rfl) res_nil)) (h := ?_); (focus (first | (have hge : ∀ e, frN pl l to = some e → 0 ≤ e := (fun e he => frN_ge (ctsF_right (ctsN_zero d1).2) he); clear hk; unfold frAtN; cases h : frN pl l to <;> simp [h, d1, d2] at * <;> omega) | (clear hk; simp [frAtN, *]))))
theorem e_eqIR (a b c d : Int) : oc.call 18 [.agg [.int .i64 a, .int .i64 b], .agg [.int .i64 c, .int .i64 d]] = some (.bool (decide (a = c ∧ b = d)), []) := by
  refine fun_s rfl cd18 rfl rfl rfl (by simp; rfl) (by simp; rfl) ?_
  refine wa_ (wc_region (w_ (bx (h := w_ (bx (h := w_ (a_ (h := wo_nil (e_ (h := aft_normal (wa_ (wa_ (wc_region (w_ (f_ (h := w_ (l_ (h := ?_))))))))))))))))))
  refine w_ (f_ (h := w_ (l_ (h := w_ (bE (h := wo_nil (e_ (h := aft_normal (?_)))))))))
  refine c_ (h1 := ?_) (h2 := ?_)
  rotate_right 1
  focus
   intro c1
   refine wc_skip (?_)
  rotate_right 1
  focus
   intro c1
   refine wa_ (wc_region (w_ (a_ (h := wo_nil (e_ (h := aft_normal (wc_ret (?_))))))))
  all_goals first
  | refine aft_ret ?_
  | (refine aft_normal ?_
     refine wa_ (wa_ (wc_region (w_ (f_ (h := w_ (l_ (h := w_ (f_ (h := w_ (l_ (h := w_ (bE (h := wo_nil (e_ (h := aft_normal (?_))))))))))))))))
     refine c_ (h1 := ?_) (h2 := ?_)
     rotate_right 1
     focus
      intro c2
      refine wc_skip (?_)
     rotate_right 1
     focus
      intro c2
      refine wa_ (wc_region (w_ (a_ (h := wo_nil (e_ (h := aft_normal (wc_ret (?_))))))))
     all_goals first
     | refine aft_ret ?_
     | (refine aft_normal ?_
        refine wa_ (wc_region (w_ (a_ (h := wo_nil (e_ (h := aft_normal (wc_ret (?_))))))))
        )
     )
  all_goals (refine fin_ (hr := (res_tmp rfl res_nil)) (h := ?_); (focus (simp at * <;> grind)))
theorem law_pastAt (pl : List Nd) (l : List Ct) (to ep : Int) (ho : okB pl) (hl : l.length ≤ 140737488351232) : oc.call 12 [.lst false 0 (nds false 0 pl), .lst false 0 (cts l), .int .i64 to, .int .i64 ep] = some (.bool true, []) := by
  refine fun_s rfl cd12 rfl rfl rfl (by simp; rfl) (by simp; rfl) ?_
  refine wa_ (wc_region (w_ (a_ (h := wo_nil (e_ (h := aft_normal (wa_ (wc_region (w_ (a_ (h := wo_nil (e_ (h := aft_normal (wa_ (wc_region (?_))))))))))))))))
  refine w_ (m_ (h := w_ (m_ (h := w_ (ca (hc := e_szNS pl 0 1048576 ho (by omega) (by omega)) (h := w_ (a_ (h := wo_nil (e_ (h := aft_normal (wa_ (wa_ (wc_region (w_ (m_ (h := w_ (b_ (h := wo_nil (e_ (h := ?_))))))))))))))))))))
  refine aft_normal (?_)
  refine c_ (h1 := ?_) (h2 := ?_)
  rotate_right 1
  focus
   intro c1
   first
   | exact dn c1
   | (have d1 := c1; try simp at d1
      obtain ⟨h1, h2, h3⟩ := szP_ok (l := pl) (a := 1048576) (by omega) (by omega)
      refine wc_skip (?_)
      )
  rotate_right 1
  focus
   intro c1
   first
   | exact dn c1
   | (have d1 := c1; try simp at d1
      refine wa_ (wc_region (w_ (a_ (h := wo_nil (e_ (h := aft_normal (wc_ret (?_))))))))
      )
  all_goals first
  | refine aft_ret ?_
  | (refine aft_normal ?_
     refine wa_ (wc_region (w_ (m_ (h := w_ (m_ (h := w_ (ca (hc := sz_Cts l (szP pl 1048576) hl (by omega) (by omega)) (h := w_ (a_ (h := wo_nil (e_ (h := aft_normal (wa_ (wa_ (wc_region (w_ (m_ (h := ?_))))))))))))))))))
     refine w_ (b_ (h := wo_nil (e_ (h := aft_normal (?_)))))
     refine c_ (h1 := ?_) (h2 := ?_)
     rotate_right 1
     focus
      intro c2
      first
      | exact dn c2
      | (have d2 := c2; try simp at d2
         obtain ⟨h4, h5⟩ := szI_pos (n := l.length) (a := szP pl 1048576) (by omega)
         refine wc_skip (?_)
         )
     rotate_right 1
     focus
      intro c2
      first
      | exact dn c2
      | (have d2 := c2; try simp at d2
         refine wa_ (wc_region (w_ (a_ (h := wo_nil (e_ (h := aft_normal (wc_ret (?_))))))))
         )
     all_goals first
     | refine aft_ret ?_
     | (refine aft_normal ?_
        refine wa_ (wc_region (w_ (m_ (h := w_ (ca (hc := e_toNS pl 0 h1 h2) (h := w_ (m_ (h := w_ (ca (hc := to_Cts l (by omega)) (h := w_ (m_ (h := w_ (m_ (h := w_ (ca (hc := e_pastAtS pl l to ep h1 h2 (by omega)) (h := w_ (a_ (h := wo_nil (e_ (h := aft_normal (?_)))))))))))))))))))))
        refine wa_ (wc_region (w_ (m_ (h := w_ (ca (hc := e_toNS pl 0 h1 h2) (h := w_ (a_ (h := wo_nil (e_ (h := aft_normal (wa_ (wc_region (w_ (m_ (h := w_ (ca (hc := to_Cts l (by omega)) (h := w_ (a_ (h := ?_)))))))))))))))))))
        refine wo_nil (e_ (h := aft_normal (wa_ (wc_region (w_ (m_ (h := w_ (m_ (h := w_ (m_ (h := w_ (m_ (h := w_ (ca (hc := e_pastAtI pl l to ep h1 h2 (by omega)) (h := w_ (a_ (h := wo_nil (e_ (h := aft_normal (?_))))))))))))))))))))
        refine wa_ (wa_ (wc_region (w_ (m_ (h := w_ (m_ (h := w_ (bE (h := wo_nil (e_ (h := aft_normal (?_))))))))))))
        refine c_ (h1 := ?_) (h2 := ?_)
        rotate_right 1
        focus
         intro c3
         first
         | exact dn c3
         | (have d3 := c3; try simp at d3
            refine wc_skip (?_)
            )
        rotate_right 1
        focus
         intro c3
         first
         | exact dn c3
         | (have d3 := c3; try simp at d3
            refine wa_ (wc_region (w_ (a_ (h := wo_nil (e_ (h := aft_normal (wc_ret (?_))))))))
            )
        all_goals first
        | refine aft_ret ?_
        | (refine aft_normal ?_
           refine wa_ (wa_ (wc_region (w_ (m_ (h := w_ (m_ (h := w_ (ca (hc := e_toNS pl 0 h1 h2) (h := w_ (ca (hc := e_eqNS pl pl 0 0 h1 h1 h2 h2) (h := w_ (u_ (h := wo_nil (e_ (h := aft_normal (?_))))))))))))))))
           refine c_ (h1 := ?_) (h2 := ?_)
           rotate_right 1
           focus
            intro c4
            first
            | exact dn c4
            | (have d4 := c4; try simp at d4
               refine wc_skip (?_)
               )
           rotate_right 1
           focus
            intro c4
            first
            | exact dn c4
            | (have d4 := c4; try simp at d4
               refine wa_ (wc_region (w_ (a_ (h := wo_nil (e_ (h := aft_normal (wc_ret (?_))))))))
               )
           all_goals first
           | refine aft_ret ?_
           | (refine aft_normal ?_
              refine wa_ (wa_ (wc_region (w_ (m_ (h := w_ (m_ (h := w_ (ca (hc := to_Cts l (by omega)) (h := w_ (ca (hc := eq_Cts l l (by omega) (by omega)) (h := w_ (u_ (h := wo_nil (e_ (h := aft_normal (?_))))))))))))))))
              refine c_ (h1 := ?_) (h2 := ?_)
              rotate_right 1
              focus
               intro c5
               first
               | exact dn c5
               | (have d5 := c5; try simp at d5
                  refine wc_skip (?_)
                  )
              rotate_right 1
              focus
               intro c5
               first
               | exact dn c5
               | (have d5 := c5; try simp at d5
                  refine wa_ (wc_region (w_ (a_ (h := wo_nil (e_ (h := aft_normal (wc_ret (?_))))))))
                  )
              all_goals first
              | refine aft_ret ?_
              | (refine aft_normal ?_
                 refine wa_ (wc_region (w_ (a_ (h := wo_nil (e_ (h := aft_normal (wc_ret (?_))))))))
                 )
              )
           )
        )
     )
  all_goals (refine fin_ (hr := (res_tmp rfl res_nil)) (h := ?_); (focus (simp)))
theorem law_frontierAt (pl : List Nd) (l : List Ct) (to : Int) (ho : okB pl) (hl : l.length ≤ 140737488351232) : oc.call 13 [.lst false 0 (nds false 0 pl), .lst false 0 (cts l), .int .i64 to] = some (.bool true, []) := by
  refine fun_s rfl cd13 rfl rfl rfl (by simp; rfl) (by simp; rfl) ?_
  refine wa_ (wc_region (w_ (a_ (h := wo_nil (e_ (h := aft_normal (wa_ (wc_region (w_ (a_ (h := wo_nil (e_ (h := aft_normal (wa_ (wc_region (?_))))))))))))))))
  refine w_ (m_ (h := w_ (m_ (h := w_ (ca (hc := e_szNS pl 0 1048576 ho (by omega) (by omega)) (h := w_ (a_ (h := wo_nil (e_ (h := aft_normal (wa_ (wa_ (wc_region (w_ (m_ (h := w_ (b_ (h := wo_nil (e_ (h := ?_))))))))))))))))))))
  refine aft_normal (?_)
  refine c_ (h1 := ?_) (h2 := ?_)
  rotate_right 1
  focus
   intro c1
   first
   | exact dn c1
   | (have d1 := c1; try simp at d1
      obtain ⟨h1, h2, h3⟩ := szP_ok (l := pl) (a := 1048576) (by omega) (by omega)
      refine wc_skip (?_)
      )
  rotate_right 1
  focus
   intro c1
   first
   | exact dn c1
   | (have d1 := c1; try simp at d1
      refine wa_ (wc_region (w_ (a_ (h := wo_nil (e_ (h := aft_normal (wc_ret (?_))))))))
      )
  all_goals first
  | refine aft_ret ?_
  | (refine aft_normal ?_
     refine wa_ (wc_region (w_ (m_ (h := w_ (m_ (h := w_ (ca (hc := sz_Cts l (szP pl 1048576) hl (by omega) (by omega)) (h := w_ (a_ (h := wo_nil (e_ (h := aft_normal (wa_ (wa_ (wc_region (w_ (m_ (h := ?_))))))))))))))))))
     refine w_ (b_ (h := wo_nil (e_ (h := aft_normal (?_)))))
     refine c_ (h1 := ?_) (h2 := ?_)
     rotate_right 1
     focus
      intro c2
      first
      | exact dn c2
      | (have d2 := c2; try simp at d2
         obtain ⟨h4, h5⟩ := szI_pos (n := l.length) (a := szP pl 1048576) (by omega)
         refine wc_skip (?_)
         )
     rotate_right 1
     focus
      intro c2
      first
      | exact dn c2
      | (have d2 := c2; try simp at d2
         refine wa_ (wc_region (w_ (a_ (h := wo_nil (e_ (h := aft_normal (wc_ret (?_))))))))
         )
     all_goals first
     | refine aft_ret ?_
     | (refine aft_normal ?_
        refine wa_ (wc_region (w_ (m_ (h := w_ (ca (hc := e_toNS pl 0 h1 h2) (h := w_ (m_ (h := w_ (ca (hc := to_Cts l (by omega)) (h := w_ (m_ (h := w_ (ca (hc := e_frAtS pl l to h1 h2 (by omega)) (h := w_ (al (h := w0 (s_ (h := wo_nil (e_ (h := aft_normal (?_)))))))))))))))))))))
        refine wa_ (wc_region (w_ (m_ (h := w_ (ca (hc := e_toNS pl 0 h1 h2) (h := w_ (a_ (h := wo_nil (e_ (h := aft_normal (wa_ (wc_region (w_ (m_ (h := w_ (ca (hc := to_Cts l (by omega)) (h := w_ (a_ (h := ?_)))))))))))))))))))
        refine wo_nil (e_ (h := aft_normal (wa_ (wc_region (w_ (m_ (h := w_ (m_ (h := w_ (m_ (h := w_ (ca (hc := e_frAtI pl l to h1 h2 (by omega)) (h := w_ (al (h := w0 (s_ (h := wo_nil (e_ (h := aft_normal (?_))))))))))))))))))))
        refine wa_ (wa_ (wc_region (w_ (l_ (h := w_ (l_ (h := w_ (ca (hc := e_eqIR _ _ _ _) (h := w_ (u_ (h := wo_nil (e_ (h := aft_normal (?_))))))))))))))
        refine c_ (h1 := ?_) (h2 := ?_)
        rotate_right 1
        focus
         intro c3
         first
         | exact dn c3
         | (have d3 := c3; try simp at d3
            refine wc_skip (?_)
            )
        rotate_right 1
        focus
         intro c3
         first
         | exact dn c3
         | (have d3 := c3; try simp at d3
            refine wa_ (wc_region (w_ (a_ (h := wo_nil (e_ (h := aft_normal (wc_ret (?_))))))))
            )
        all_goals first
        | refine aft_ret ?_
        | (refine aft_normal ?_
           refine wa_ (wa_ (wc_region (w_ (m_ (h := w_ (m_ (h := w_ (ca (hc := e_toNS pl 0 h1 h2) (h := w_ (ca (hc := e_eqNS pl pl 0 0 h1 h1 h2 h2) (h := w_ (u_ (h := wo_nil (e_ (h := aft_normal (?_))))))))))))))))
           refine c_ (h1 := ?_) (h2 := ?_)
           rotate_right 1
           focus
            intro c4
            first
            | exact dn c4
            | (have d4 := c4; try simp at d4
               refine wc_skip (?_)
               )
           rotate_right 1
           focus
            intro c4
            first
            | exact dn c4
            | (have d4 := c4; try simp at d4
               refine wa_ (wc_region (w_ (a_ (h := wo_nil (e_ (h := aft_normal (wc_ret (?_))))))))
               )
           all_goals first
           | refine aft_ret ?_
           | (refine aft_normal ?_
              refine wa_ (wa_ (wc_region (w_ (m_ (h := w_ (m_ (h := w_ (ca (hc := to_Cts l (by omega)) (h := w_ (ca (hc := eq_Cts l l (by omega) (by omega)) (h := w_ (u_ (h := wo_nil (e_ (h := aft_normal (?_))))))))))))))))
              refine c_ (h1 := ?_) (h2 := ?_)
              rotate_right 1
              focus
               intro c5
               first
               | exact dn c5
               | (have d5 := c5; try simp at d5
                  refine wc_skip (?_)
                  )
              rotate_right 1
              focus
               intro c5
               first
               | exact dn c5
               | (have d5 := c5; try simp at d5
                  refine wa_ (wc_region (w_ (a_ (h := wo_nil (e_ (h := aft_normal (wc_ret (?_))))))))
                  )
              all_goals first
              | refine aft_ret ?_
              | (refine aft_normal ?_
                 refine wa_ (wc_region (w_ (a_ (h := wo_nil (e_ (h := aft_normal (wc_ret (?_))))))))
                 )
              )
           )
        )
     )
  all_goals (refine fin_ (hr := (res_tmp rfl res_nil)) (h := ?_); (focus (simp)))
end Go.Proofs.Ytmednhpmcplplaa.Ev
namespace Go.Proofs.Ytmednhpmcplplaa.Ev
open Go Go.RowKit
set_option linter.unusedVariables false
set_option maxRecDepth 100000
theorem fnExactFrontierAt_run (vs : List V) (h : hasTs Try.prog [50, 55, 2] vs) : oc.call 13 vs = some (.bool true, []) := by
  obtain ⟨v0, q0, rfl, h0, v1, q1, rfl, h1, v2, q2, rfl, h2, h⟩ := h
  simp only [hasTs] at h
  subst h
  obtain ⟨a0, rfl, b0⟩ := dNodes h0
  obtain ⟨a1, rfl, b1⟩ := dCts h1
  obtain ⟨a2, rfl, _⟩ := dInt h2
  exact law_frontierAt a0 a1 a2 b0 b1
theorem fnExactFrontierAt_lifted (os : Os) (started : os.Started) (H : Type) (enc : TypeId × Value → H) :
    ReturnsInHanded {} Try.checked os 13 .any (Rows.fnExactFrontierAtSpec.pre6 enc Try.prog Try.f13 Rows.fnExactFrontierAtRow.domain false) (Rows.fnExactFrontierAtSpec.post enc Try.prog Try.f13 false true false false) := by
  refine returnsInHanded_of_change_sized (C := Try.checked) (by kernel_rfl) started (by kernel_rfl) Try.func13
    (ChangeSpec.witness6 (enc := enc) (C := Try.checked) false ⟨#[], #[.slice none 0 0, .slice none 0 0, .int .i64 0], []⟩ 8 (by kernel_rfl) (by kernel_rfl) (by kernel_rfl) (by kernel_rfl)) ?_
  intro W base args ds gs before hval hW hcnd hsz _
  refine law_calls oc_ok rfl ?_ (tb := 4) rfl Try.underlying4 (by kernel_rfl) (by kernel_rfl) (by kernel_rfl) fnExactFrontierAt_run W base args ds gs before hval hW hsz
  intro K ds hds
  match ds, hds with
  | [_, _, _], _ => rfl
theorem fnExactFrontierAt_over : Rows.fnExactFrontierAtRow.holds Try.pinned (OpenSpec.ofChange Rows.fnExactFrontierAtSpec) :=
  OpenClaim.holds_of_wide 13 Try.f13 rfl rfl rfl rfl rfl rfl rfl ⟨rfl, rfl, rfl, rfl, rfl⟩ rfl rfl rfl rfl rfl (by kernel_rfl) Try.func13 (by kernel_rfl)
    (of_decide_eq_true (by kernel_rfl)) (by unfold Func.isWrapper; first | (rw [if_pos (by decide +kernel)]; kernel_rfl) | (rw [if_neg (by decide +kernel)]; exact ⟨rfl, rfl⟩))
    (fun os started H enc _ => fnExactFrontierAt_lifted os started H enc)
end Go.Proofs.Ytmednhpmcplplaa.Ev
namespace Go.Proofs.Ytmednhpmcplplaa
theorem fnExactFrontierAt_holds : Rows.FnExactFrontierAtSaid := Ev.fnExactFrontierAt_over
#print axioms fnExactFrontierAt_holds
end Go.Proofs.Ytmednhpmcplplaa
