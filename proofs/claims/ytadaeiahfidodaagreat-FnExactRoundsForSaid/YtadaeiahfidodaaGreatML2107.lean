/- Part 7 of the proof that the law named in the last part returns true at every argument: an evaluator of the program, shown sound, and its runs. No further conditions. -/
import Derived.Test.YtadaeiahfidodaaGreatML2106
import Derived.Test.YtadaeiahfidodaaGreatRows
namespace Go.Proofs.YtadaeiahfidodaaGreat.Ev
open Go Go.RowKit
set_option linter.unusedVariables false
set_option maxRecDepth 100000
theorem fnExactRoundsFor_run (vs : List V) (h : hasTs Tryz.prog [26] vs) : oc.call 5 vs = some (.bool true,[]) := by
  obtain ⟨v0,q0,rfl,h0,h⟩ := h
  simp only [hasTs] at h
  subst h
  obtain ⟨a0,rfl,b0⟩ := dCl h0
  exact law_rnd a0 b0
theorem fnExactRoundsFor_lifted (os : Os) (started : os.Started) (H : Type) (enc : TypeId × Value → H) :
    ReturnsInHanded {} Tryz.checked os 5 .any (Rows.fnExactRoundsForSpec.pre6 enc Tryz.prog Tryz.f5 Rows.fnExactRoundsForRow.domain false) (Rows.fnExactRoundsForSpec.post enc Tryz.prog Tryz.f5 false true false false) := by
  refine returnsInHanded_of_change_sized (C:=Tryz.checked) (by kernel_rfl) started (by kernel_rfl) Tryz.func5
    (ChangeSpec.witness6 (enc:=enc) (C:=Tryz.checked) false ⟨#[],#[.agg #[.slice none 0 0,.slice none 0 0,.slice none 0 0]],[]⟩ 8 (by kernel_rfl) (by kernel_rfl) (by kernel_rfl) (by kernel_rfl)) ?_
  intro W base args ds gs before hval hW hcnd hsz _
  refine law_calls oc_ok rfl ?_ (tb:=4) rfl Tryz.underlying4 (by kernel_rfl) (by kernel_rfl) (by kernel_rfl) fnExactRoundsFor_run W base args ds gs before hval hW hsz
  intro K ds hds
  match ds,hds with
  | [_],_ => rfl
theorem fnExactRoundsFor_over : Rows.fnExactRoundsForRow.holds Tryz.pinned (OpenSpec.ofChange Rows.fnExactRoundsForSpec) :=
  OpenClaim.holds_of_wide 5 Tryz.f5 rfl rfl rfl rfl rfl rfl rfl ⟨rfl,rfl,rfl,rfl,rfl⟩ rfl rfl rfl rfl rfl (by kernel_rfl) Tryz.func5 (by kernel_rfl)
    (of_decide_eq_true (by kernel_rfl)) (by unfold Func.isWrapper;first | (rw [if_pos (by decide +kernel)];kernel_rfl) | (rw [if_neg (by decide +kernel)];exact ⟨rfl,rfl⟩))
    (fun os started H enc _ => fnExactRoundsFor_lifted os started H enc)
end Go.Proofs.YtadaeiahfidodaaGreat.Ev
namespace Go.Proofs.YtadaeiahfidodaaGreat
theorem fnExactRoundsFor_holds : Rows.FnExactRoundsForSaid := Ev.fnExactRoundsFor_over
#print axioms fnExactRoundsFor_holds
end Go.Proofs.YtadaeiahfidodaaGreat
