/- Part 6 of the proof that the law named in the last part returns true at every argument: an evaluator of the program, shown sound, and its runs. No further conditions. -/
import Derived.Test.YtbcgenkegnmkhaaMLp605
import Derived.Test.YtbcgenkegnmkhaaRows
namespace Go.Proofs.Ytbcgenkegnmkhaa.Ev
open Go Go.RowKit
set_option linter.unusedVariables false
set_option maxRecDepth 100000
theorem fnLeads_run (vs : List V) (h : hasTs Try.prog [22] vs) : oc.call 3 vs = some (.bool true,[]) := by
  obtain ⟨v0,q0,rfl,h0,h⟩ := h
  simp only [hasTs] at h
  subst h
  obtain ⟨a0,rfl,b0⟩ := dBytes h0
  exact law_fnLeads a0 b0
theorem fnLeads_lifted (os : Os) (started : os.Started) (H : Type) (enc : TypeId × Value → H) :
    ReturnsInHanded {} Try.checked os 3 .any (Rows.fnLeadsSpec.pre6 enc Try.prog Try.f3 Rows.fnLeadsRow.domain false) (Rows.fnLeadsSpec.post enc Try.prog Try.f3 false true false false) := by
  refine returnsInHanded_of_change_sized (C:=Try.checked) (by kernel_rfl) started (by kernel_rfl) Try.func3
    (ChangeSpec.witness6 (enc:=enc) (C:=Try.checked) false ⟨#[],#[.slice none 0 0],[]⟩ 8 (by kernel_rfl) (by kernel_rfl) (by kernel_rfl) (by kernel_rfl)) ?_
  intro W base args ds gs before hval hW hcnd hsz _
  refine law_calls oc_ok rfl ?_ (tb:=4) rfl Try.underlying4 (by kernel_rfl) (by kernel_rfl) (by kernel_rfl) fnLeads_run W base args ds gs before hval hW hsz
  intro K ds hds
  match ds,hds with
  | [_],_ => rfl
theorem fnLeads_over : Rows.fnLeadsRow.holds Try.pinned (OpenSpec.ofChange Rows.fnLeadsSpec) :=
  OpenClaim.holds_of_wide 3 Try.f3 rfl rfl rfl rfl rfl rfl rfl ⟨rfl,rfl,rfl,rfl,rfl⟩ rfl rfl rfl rfl rfl (by kernel_rfl) Try.func3 (by kernel_rfl)
    (of_decide_eq_true (by kernel_rfl)) (by unfold Func.isWrapper;first | (rw [if_pos (by decide +kernel)];kernel_rfl) | (rw [if_neg (by decide +kernel)];exact ⟨rfl,rfl⟩))
    (fun os started H enc _ => fnLeads_lifted os started H enc)
end Go.Proofs.Ytbcgenkegnmkhaa.Ev
namespace Go.Proofs.Ytbcgenkegnmkhaa
theorem fnLeads_holds : Rows.FnLeadsSaid := Ev.fnLeads_over
#print axioms fnLeads_holds
end Go.Proofs.Ytbcgenkegnmkhaa
