/- Part 7 of the proof that the law named in the last part returns true at every argument: an evaluator of the program, shown sound, and its runs. No further conditions. -/
import Derived.Test.YtmednhpmcplplaaML1506
import Derived.Test.YtmednhpmcplplaaRows
namespace Go.Proofs.Ytmednhpmcplplaa.Ev
open Go Go.RowKit
set_option linter.unusedVariables false
set_option maxRecDepth 100000
theorem fnExactSplitSet_run (vs : List V) (h : hasTs Try.prog [2, 30, 2] vs) : oc.call 4 vs = some (.bool true, []) := by
  obtain ⟨v0, q0, rfl, h0, v1, q1, rfl, h1, v2, q2, rfl, h2, h⟩ := h
  simp only [hasTs] at h
  subst h
  obtain ⟨a0, rfl, _⟩ := dInt h0
  obtain ⟨a1, rfl, b1⟩ := dEts h1
  obtain ⟨a2, rfl, _⟩ := dInt h2
  exact law_split a0 a1 a2 b1
theorem fnExactSplitSet_lifted (os : Os) (started : os.Started) (H : Type) (enc : TypeId × Value → H) :
    ReturnsInHanded {} Try.checked os 4 .any (Rows.fnExactSplitSetSpec.pre6 enc Try.prog Try.f4 Rows.fnExactSplitSetRow.domain false) (Rows.fnExactSplitSetSpec.post enc Try.prog Try.f4 false true false false) := by
  refine returnsInHanded_of_change_sized (C := Try.checked) (by kernel_rfl) started (by kernel_rfl) Try.func4
    (ChangeSpec.witness6 (enc := enc) (C := Try.checked) false ⟨#[], #[.int .i64 0, .slice none 0 0, .int .i64 0], []⟩ 8 (by kernel_rfl) (by kernel_rfl) (by kernel_rfl) (by kernel_rfl)) ?_
  intro W base args ds gs before hval hW hcnd hsz _
  refine law_calls oc_ok rfl ?_ (tb := 4) rfl Try.underlying4 (by kernel_rfl) (by kernel_rfl) (by kernel_rfl) fnExactSplitSet_run W base args ds gs before hval hW hsz
  intro K ds hds
  match ds, hds with
  | [_, _, _], _ => rfl
theorem fnExactSplitSet_over : Rows.fnExactSplitSetRow.holds Try.pinned (OpenSpec.ofChange Rows.fnExactSplitSetSpec) :=
  OpenClaim.holds_of_wide 4 Try.f4 rfl rfl rfl rfl rfl rfl rfl ⟨rfl, rfl, rfl, rfl, rfl⟩ rfl rfl rfl rfl rfl (by kernel_rfl) Try.func4 (by kernel_rfl)
    (of_decide_eq_true (by kernel_rfl)) (by unfold Func.isWrapper; first | (rw [if_pos (by decide +kernel)]; kernel_rfl) | (rw [if_neg (by decide +kernel)]; exact ⟨rfl, rfl⟩))
    (fun os started H enc _ => fnExactSplitSet_lifted os started H enc)
end Go.Proofs.Ytmednhpmcplplaa.Ev
namespace Go.Proofs.Ytmednhpmcplplaa
theorem fnExactSplitSet_holds : Rows.FnExactSplitSetSaid := Ev.fnExactSplitSet_over
#print axioms fnExactSplitSet_holds
end Go.Proofs.Ytmednhpmcplplaa
