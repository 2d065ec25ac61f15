/- Part 7 of the proof that the law named in the last part returns true at every argument: an evaluator of the program, shown sound, and its runs. No further conditions. -/
import Derived.Test.YtbcgenkegnmkhaaMLp1306
import Derived.Test.YtbcgenkegnmkhaaRows
namespace Go.Proofs.Ytbcgenkegnmkhaa.Ev
open Go Go.RowKit
set_option linter.unusedVariables false
set_option maxRecDepth 100000
theorem fnFrontiers_run (vs : List V) (h : hasTs Try.prog [22] vs) : oc.call 4 vs = some (.bool true,[]) := by
  obtain ⟨v0,q0,rfl,h0,h⟩ := h
  simp only [hasTs] at h
  subst h
  obtain ⟨a0,rfl,b0⟩ := dBytes h0
  exact law_fnFrontiers a0 b0
theorem fnFrontiers_lifted (os : Os) (started : os.Started) (H : Type) (enc : TypeId × Value→H) :
    ReturnsInHanded {} Try.checked os 4 .any (Rows.fnFrontiersSpec.pre6 enc Try.prog Try.f4 Rows.fnFrontiersRow.domain false) (Rows.fnFrontiersSpec.post enc Try.prog Try.f4 false true false false) := by
  refine returnsInHanded_of_change_sized (C:=Try.checked) (by kernel_rfl) started (by kernel_rfl) Try.func4
    (ChangeSpec.witness6 (enc:=enc) (C:=Try.checked) false ⟨#[],#[.slice none 0 0],[]⟩ 8 (by kernel_rfl) (by kernel_rfl) (by kernel_rfl) (by kernel_rfl)) ?_
  intro W base args ds gs before hval hW hcnd hsz _
  refine law_calls oc_ok rfl ?_ (tb:=4) rfl Try.underlying4 (by kernel_rfl) (by kernel_rfl) (by kernel_rfl) fnFrontiers_run W base args ds gs before hval hW hsz
  intro K ds hds
  match ds,hds with
  | [_],_ => rfl
theorem fnFrontiers_over : Rows.fnFrontiersRow.holds Try.pinned (OpenSpec.ofChange Rows.fnFrontiersSpec) :=
  OpenClaim.holds_of_wide 4 Try.f4 rfl rfl rfl rfl rfl rfl rfl ⟨rfl,rfl,rfl,rfl,rfl⟩ rfl rfl rfl rfl rfl (by kernel_rfl) Try.func4 (by kernel_rfl)
    (of_decide_eq_true (by kernel_rfl)) (by unfold Func.isWrapper;first | (rw [if_pos (by decide +kernel)];kernel_rfl) | (rw [if_neg (by decide +kernel)];exact ⟨rfl,rfl⟩))
    (fun os started H enc _ => fnFrontiers_lifted os started H enc)
end Go.Proofs.Ytbcgenkegnmkhaa.Ev
namespace Go.Proofs.Ytbcgenkegnmkhaa
theorem fnFrontiers_holds : Rows.FnFrontiersSaid := Ev.fnFrontiers_over
#print axioms fnFrontiers_holds
end Go.Proofs.Ytbcgenkegnmkhaa
