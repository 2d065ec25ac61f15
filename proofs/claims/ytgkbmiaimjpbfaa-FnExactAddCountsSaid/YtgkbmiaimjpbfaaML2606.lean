/- Part 6 of the proof that the law named in the last part returns true at every argument: an evaluator of the program, shown sound, and its runs. No further conditions. -/
import Derived.Test.YtgkbmiaimjpbfaaML2605
import Derived.Test.YtgkbmiaimjpbfaaRows
namespace Go.Proofs.Ytgkbmiaimjpbfaa.Ev
open Go Go.RowKit
set_option linter.unusedVariables false
set_option maxRecDepth 100000
theorem fnExactAddCounts_run (vs : List V) (h : hasTs Try.prog [61,91,91] vs) : oc.call 10 vs = some (.bool true,[]) := by
  obtain ⟨v0,q0,rfl,h0,v1,q1,rfl,h1,v2,q2,rfl,h2,h⟩ := h
  simp only [hasTs] at h
  subst h
  obtain ⟨a0,rfl,b0⟩ := dNodes h0
  obtain ⟨a1,rfl,b1⟩ := dCts h1
  obtain ⟨a2,rfl,b2⟩ := dCts h2
  exact law_adc a0 a1 a2 b0 b1 b2
theorem fnExactAddCounts_lifted (os : Os) (started : os.Started) (H : Type) (enc : TypeId × Value → H) :
    ReturnsInHanded {} Try.checked os 10 .any (Rows.fnExactAddCountsSpec.pre6 enc Try.prog Try.f10 Rows.fnExactAddCountsRow.domain false) (Rows.fnExactAddCountsSpec.post enc Try.prog Try.f10 false true false false) := by
  refine returnsInHanded_of_change_sized (C:=Try.checked) (by kernel_rfl) started (by kernel_rfl) Try.func10
    (ChangeSpec.witness6 (enc:=enc) (C:=Try.checked) false ⟨#[],#[.slice none 0 0,.slice none 0 0,.slice none 0 0],[]⟩ 8 (by kernel_rfl) (by kernel_rfl) (by kernel_rfl) (by kernel_rfl)) ?_
  intro W base args ds gs before hval hW hcnd hsz _
  refine law_calls oc_ok rfl ?_ (tb:=4) rfl Try.underlying4 (by kernel_rfl) (by kernel_rfl) (by kernel_rfl) fnExactAddCounts_run W base args ds gs before hval hW hsz
  intro K ds hds
  match ds,hds with
  | [_,_,_],_ => rfl
theorem fnExactAddCounts_over : Rows.fnExactAddCountsRow.holds Try.pinned (OpenSpec.ofChange Rows.fnExactAddCountsSpec) :=
  OpenClaim.holds_of_wide 10 Try.f10 rfl rfl rfl rfl rfl rfl rfl ⟨rfl,rfl,rfl,rfl,rfl⟩ rfl rfl rfl rfl rfl (by kernel_rfl) Try.func10 (by kernel_rfl)
    (of_decide_eq_true (by kernel_rfl)) (by unfold Func.isWrapper;first | (rw [if_pos (by decide +kernel)];kernel_rfl) | (rw [if_neg (by decide +kernel)];exact ⟨rfl,rfl⟩))
    (fun os started H enc _ => fnExactAddCounts_lifted os started H enc)
end Go.Proofs.Ytgkbmiaimjpbfaa.Ev
namespace Go.Proofs.Ytgkbmiaimjpbfaa
theorem fnExactAddCounts_holds : Rows.FnExactAddCountsSaid := Ev.fnExactAddCounts_over
#print axioms fnExactAddCounts_holds
end Go.Proofs.Ytgkbmiaimjpbfaa
