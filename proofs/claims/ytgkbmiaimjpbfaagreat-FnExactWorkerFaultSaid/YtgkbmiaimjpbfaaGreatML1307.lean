/- Part 7 of the proof that the law named in the last part returns true at every argument: an evaluator of the program, shown sound, and its runs. No further conditions. -/
import Derived.Test.YtgkbmiaimjpbfaaGreatML1306
import Derived.Test.YtgkbmiaimjpbfaaGreatRows
namespace Go.Proofs.YtgkbmiaimjpbfaaGreat.Ev
open Go Go.RowKit
set_option linter.unusedVariables false
set_option maxRecDepth 100000
theorem fnExactWorkerFault_run (vs : List V) (h : hasTs Tryz.prog [22, 28] vs) : oc.call 3 vs = some (.bool true, []) := by
  obtain ⟨v0, q0, rfl, h0, v1, q1, rfl, h1, h⟩ := h
  simp only [hasTs] at h
  subst h
  obtain ⟨a0, rfl, b0⟩ := dNodes h0
  obtain ⟨a1, rfl, b1⟩ := dWk h1
  exact law_worker a0 a1 b0 b1
theorem fnExactWorkerFault_lifted (os : Os) (started : os.Started) (H : Type) (enc : TypeId × Value → H) :
    ReturnsInHanded {} Tryz.checked os 3 .any (Rows.fnExactWorkerFaultSpec.pre6 enc Tryz.prog Tryz.f3 Rows.fnExactWorkerFaultRow.domain false) (Rows.fnExactWorkerFaultSpec.post enc Tryz.prog Tryz.f3 false true false false) := by
  refine returnsInHanded_of_change_sized (C := Tryz.checked) (by kernel_rfl) started (by kernel_rfl) Tryz.func3
    (ChangeSpec.witness6 (enc := enc) (C := Tryz.checked) false ⟨#[], #[.slice none 0 0, .agg #[.slice none 0 0, .slice none 0 0, .slice none 0 0, .int .i64 0, .int .i64 0, .slice none 0 0, .bool false]], []⟩ 8 (by kernel_rfl) (by kernel_rfl) (by kernel_rfl) (by kernel_rfl)) ?_
  intro W base args ds gs before hval hW hcnd hsz _
  refine law_calls oc_ok rfl ?_ (tb := 4) rfl Tryz.underlying4 (by kernel_rfl) (by kernel_rfl) (by kernel_rfl) fnExactWorkerFault_run W base args ds gs before hval hW hsz
  intro K ds hds
  match ds, hds with
  | [_, _], _ => rfl
theorem fnExactWorkerFault_over : Rows.fnExactWorkerFaultRow.holds Tryz.pinned (OpenSpec.ofChange Rows.fnExactWorkerFaultSpec) :=
  OpenClaim.holds_of_wide 3 Tryz.f3 rfl rfl rfl rfl rfl rfl rfl ⟨rfl, rfl, rfl, rfl, rfl⟩ rfl rfl rfl rfl rfl (by kernel_rfl) Tryz.func3 (by kernel_rfl)
    (of_decide_eq_true (by kernel_rfl)) (by unfold Func.isWrapper; first | (rw [if_pos (by decide +kernel)]; kernel_rfl) | (rw [if_neg (by decide +kernel)]; exact ⟨rfl, rfl⟩))
    (fun os started H enc _ => fnExactWorkerFault_lifted os started H enc)
end Go.Proofs.YtgkbmiaimjpbfaaGreat.Ev
namespace Go.Proofs.YtgkbmiaimjpbfaaGreat
theorem fnExactWorkerFault_holds : Rows.FnExactWorkerFaultSaid := Ev.fnExactWorkerFault_over
#print axioms fnExactWorkerFault_holds
end Go.Proofs.YtgkbmiaimjpbfaaGreat
