/- Part 6 of the proof that the law named in the last part returns true at every argument: an evaluator of the program, shown sound, and its runs. No further conditions. -/
import Derived.Test.YtmednhpmcplplaaML1405
import Derived.Test.YtmednhpmcplplaaRows
namespace Go.Proofs.Ytmednhpmcplplaa.Ev
open Go Go.RowKit
set_option linter.unusedVariables false
set_option maxRecDepth 100000
theorem fnExactFrameFault_run (vs : List V) (h : hasTs Try.prog [50, 91] vs) : oc.call 14 vs = some (.bool true, []) := by
  obtain ⟨v0, q0, rfl, h0, v1, q1, rfl, h1, h⟩ := h
  simp only [hasTs] at h
  subst h
  obtain ⟨a0, rfl, b0⟩ := dNodes h0
  obtain ⟨a1, rfl, b1⟩ := dFr h1
  exact law_frameFault a0 a1 b0 b1
theorem fnExactFrameFault_lifted (os : Os) (started : os.Started) (H : Type) (enc : TypeId × Value → H) :
    ReturnsInHanded {} Try.checked os 14 .any (Rows.fnExactFrameFaultSpec.pre6 enc Try.prog Try.f14 Rows.fnExactFrameFaultRow.domain false) (Rows.fnExactFrameFaultSpec.post enc Try.prog Try.f14 false true false false) := by
  refine returnsInHanded_of_change_sized (C := Try.checked) (by kernel_rfl) started (by kernel_rfl) Try.func14
    (ChangeSpec.witness6 (enc := enc) (C := Try.checked) false ⟨#[], #[.slice none 0 0, .agg #[.int .i64 0, .int .i64 0, .int .i64 0, .int .i64 0, .slice none 0 0, .slice none 0 0]], []⟩ 8 (by kernel_rfl) (by kernel_rfl) (by kernel_rfl) (by kernel_rfl)) ?_
  intro W base args ds gs before hval hW hcnd hsz _
  refine law_calls oc_ok rfl ?_ (tb := 4) rfl Try.underlying4 (by kernel_rfl) (by kernel_rfl) (by kernel_rfl) fnExactFrameFault_run W base args ds gs before hval hW hsz
  intro K ds hds
  match ds, hds with
  | [_, _], _ => rfl
theorem fnExactFrameFault_over : Rows.fnExactFrameFaultRow.holds Try.pinned (OpenSpec.ofChange Rows.fnExactFrameFaultSpec) :=
  OpenClaim.holds_of_wide 14 Try.f14 rfl rfl rfl rfl rfl rfl rfl ⟨rfl, rfl, rfl, rfl, rfl⟩ rfl rfl rfl rfl rfl (by kernel_rfl) Try.func14 (by kernel_rfl)
    (of_decide_eq_true (by kernel_rfl)) (by unfold Func.isWrapper; first | (rw [if_pos (by decide +kernel)]; kernel_rfl) | (rw [if_neg (by decide +kernel)]; exact ⟨rfl, rfl⟩))
    (fun os started H enc _ => fnExactFrameFault_lifted os started H enc)
end Go.Proofs.Ytmednhpmcplplaa.Ev
namespace Go.Proofs.Ytmednhpmcplplaa
theorem fnExactFrameFault_holds : Rows.FnExactFrameFaultSaid := Ev.fnExactFrameFault_over
#print axioms fnExactFrameFault_holds
end Go.Proofs.Ytmednhpmcplplaa
