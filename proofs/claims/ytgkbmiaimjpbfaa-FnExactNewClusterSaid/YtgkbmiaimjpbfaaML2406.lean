/- Part 6 of the proof that the law named in the last part returns true at every argument: an evaluator of the program, shown sound, and its runs. No further conditions. -/
import Derived.Test.YtgkbmiaimjpbfaaML2405
import Derived.Test.YtgkbmiaimjpbfaaRows
namespace Go.Proofs.Ytgkbmiaimjpbfaa.Ev
open Go Go.RowKit
set_option linter.unusedVariables false
set_option maxRecDepth 100000
theorem fnExactNewCluster_run (vs : List V) (h : hasTs Try.prog [61,2] vs) : oc.call 11 vs = some (.bool true,[]) := by
  obtain ⟨v0,q0,rfl,h0,v1,q1,rfl,h1,h⟩ := h
  simp only [hasTs] at h
  subst h
  obtain ⟨a0,rfl,b0⟩ := dNodes h0
  obtain ⟨a1,rfl,_⟩ := dInt h1
  exact law_new a0 a1 b0
theorem fnExactNewCluster_lifted (os : Os) (started : os.Started) (H : Type) (enc : TypeId × Value → H) :
    ReturnsInHanded {} Try.checked os 11 .any (Rows.fnExactNewClusterSpec.pre6 enc Try.prog Try.f11 Rows.fnExactNewClusterRow.domain false) (Rows.fnExactNewClusterSpec.post enc Try.prog Try.f11 false true false false) := by
  refine returnsInHanded_of_change_sized (C:=Try.checked) (by kernel_rfl) started (by kernel_rfl) Try.func11
    (ChangeSpec.witness6 (enc:=enc) (C:=Try.checked) false ⟨#[],#[.slice none 0 0,.int .i64 0],[]⟩ 8 (by kernel_rfl) (by kernel_rfl) (by kernel_rfl) (by kernel_rfl)) ?_
  intro W base args ds gs before hval hW hcnd hsz _
  refine law_calls oc_ok rfl ?_ (tb:=4) rfl Try.underlying4 (by kernel_rfl) (by kernel_rfl) (by kernel_rfl) fnExactNewCluster_run W base args ds gs before hval hW hsz
  intro K ds hds
  match ds,hds with
  | [_,_],_ => rfl
theorem fnExactNewCluster_over : Rows.fnExactNewClusterRow.holds Try.pinned (OpenSpec.ofChange Rows.fnExactNewClusterSpec) :=
  OpenClaim.holds_of_wide 11 Try.f11 rfl rfl rfl rfl rfl rfl rfl ⟨rfl,rfl,rfl,rfl,rfl⟩ rfl rfl rfl rfl rfl (by kernel_rfl) Try.func11 (by kernel_rfl)
    (of_decide_eq_true (by kernel_rfl)) (by unfold Func.isWrapper;first | (rw [if_pos (by decide +kernel)];kernel_rfl) | (rw [if_neg (by decide +kernel)];exact ⟨rfl,rfl⟩))
    (fun os started H enc _ => fnExactNewCluster_lifted os started H enc)
end Go.Proofs.Ytgkbmiaimjpbfaa.Ev
namespace Go.Proofs.Ytgkbmiaimjpbfaa
theorem fnExactNewCluster_holds : Rows.FnExactNewClusterSaid := Ev.fnExactNewCluster_over
#print axioms fnExactNewCluster_holds
end Go.Proofs.Ytgkbmiaimjpbfaa
