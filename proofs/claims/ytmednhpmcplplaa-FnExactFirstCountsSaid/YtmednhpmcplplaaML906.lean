/- Part 6 of the proof that the law named in the last part returns true at every argument: an evaluator of the program, shown sound, and its runs. No further conditions. -/
import Derived.Test.YtmednhpmcplplaaML905
import Derived.Test.YtmednhpmcplplaaRows
namespace Go.Proofs.Ytmednhpmcplplaa.Ev
open Go Go.RowKit
set_option linter.unusedVariables false
set_option maxRecDepth 100000
theorem fnExactFirstCounts_run (vs : List V) (h : hasTs Try.prog [50, 2] vs) : oc.call 9 vs = some (.bool true, []) := by
  obtain ⟨v0, q0, rfl, h0, v1, q1, rfl, h1, h⟩ := h
  simp only [hasTs] at h
  subst h
  obtain ⟨a0, rfl, b0⟩ := dNodes h0
  obtain ⟨a1, rfl, _⟩ := dInt h1
  exact law_first a0 a1 b0
theorem fnExactFirstCounts_lifted (os : Os) (started : os.Started) (H : Type) (enc : TypeId × Value → H) :
    ReturnsInHanded {} Try.checked os 9 .any (Rows.fnExactFirstCountsSpec.pre6 enc Try.prog Try.f9 Rows.fnExactFirstCountsRow.domain false) (Rows.fnExactFirstCountsSpec.post enc Try.prog Try.f9 false true false false) := by
  refine returnsInHanded_of_change_sized (C := Try.checked) (by kernel_rfl) started (by kernel_rfl) Try.func9
    (ChangeSpec.witness6 (enc := enc) (C := Try.checked) false ⟨#[], #[.slice none 0 0, .int .i64 0], []⟩ 8 (by kernel_rfl) (by kernel_rfl) (by kernel_rfl) (by kernel_rfl)) ?_
  intro W base args ds gs before hval hW hcnd hsz _
  refine law_calls oc_ok rfl ?_ (tb := 4) rfl Try.underlying4 (by kernel_rfl) (by kernel_rfl) (by kernel_rfl) fnExactFirstCounts_run W base args ds gs before hval hW hsz
  intro K ds hds
  match ds, hds with
  | [_, _], _ => rfl
theorem fnExactFirstCounts_over : Rows.fnExactFirstCountsRow.holds Try.pinned (OpenSpec.ofChange Rows.fnExactFirstCountsSpec) :=
  OpenClaim.holds_of_wide 9 Try.f9 rfl rfl rfl rfl rfl rfl rfl ⟨rfl, rfl, rfl, rfl, rfl⟩ rfl rfl rfl rfl rfl (by kernel_rfl) Try.func9 (by kernel_rfl)
    (of_decide_eq_true (by kernel_rfl)) (by unfold Func.isWrapper; first | (rw [if_pos (by decide +kernel)]; kernel_rfl) | (rw [if_neg (by decide +kernel)]; exact ⟨rfl, rfl⟩))
    (fun os started H enc _ => fnExactFirstCounts_lifted os started H enc)
end Go.Proofs.Ytmednhpmcplplaa.Ev
namespace Go.Proofs.Ytmednhpmcplplaa
theorem fnExactFirstCounts_holds : Rows.FnExactFirstCountsSaid := Ev.fnExactFirstCounts_over
#print axioms fnExactFirstCounts_holds
end Go.Proofs.Ytmednhpmcplplaa
