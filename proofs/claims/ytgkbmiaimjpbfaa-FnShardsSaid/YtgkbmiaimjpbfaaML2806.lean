/- Part 6 of the proof that the law named in the last part returns true at every argument: an evaluator of the program, shown sound, and its runs. No further conditions. -/
import Derived.Test.YtgkbmiaimjpbfaaML2805
import Derived.Test.YtgkbmiaimjpbfaaRows
namespace Go.Proofs.Ytgkbmiaimjpbfaa.Ev
open Go Go.RowKit
set_option linter.unusedVariables false
set_option maxRecDepth 100000
theorem fnShards_run (vs : List V) (h : hasTs Try.prog [35] vs) : oc.call 6 vs = some (.bool true,[]) := by
  obtain ⟨v0,q0,rfl,h0,h⟩ := h
  simp only [hasTs] at h
  subst h
  obtain ⟨a0,rfl,b0⟩ := dBytes h0
  exact law_fnShards a0 b0
theorem fnShards_lifted (os : Os) (started : os.Started) (H : Type) (enc : TypeId × Value → H) :
    ReturnsInHanded {} Try.checked os 6 .any (Rows.fnShardsSpec.pre6 enc Try.prog Try.f6 Rows.fnShardsRow.domain false) (Rows.fnShardsSpec.post enc Try.prog Try.f6 false true false false) := by
  refine returnsInHanded_of_change_sized (C:=Try.checked) (by kernel_rfl) started (by kernel_rfl) Try.func6
    (ChangeSpec.witness6 (enc:=enc) (C:=Try.checked) false ⟨#[],#[.slice none 0 0],[]⟩ 8 (by kernel_rfl) (by kernel_rfl) (by kernel_rfl) (by kernel_rfl)) ?_
  intro W base args ds gs before hval hW hcnd hsz _
  refine law_calls oc_ok rfl ?_ (tb:=4) rfl Try.underlying4 (by kernel_rfl) (by kernel_rfl) (by kernel_rfl) fnShards_run W base args ds gs before hval hW hsz
  intro K ds hds
  match ds,hds with
  | [_],_ => rfl
theorem fnShards_over : Rows.fnShardsRow.holds Try.pinned (OpenSpec.ofChange Rows.fnShardsSpec) :=
  OpenClaim.holds_of_wide 6 Try.f6 rfl rfl rfl rfl rfl rfl rfl ⟨rfl,rfl,rfl,rfl,rfl⟩ rfl rfl rfl rfl rfl (by kernel_rfl) Try.func6 (by kernel_rfl)
    (of_decide_eq_true (by kernel_rfl)) (by unfold Func.isWrapper;first | (rw [if_pos (by decide +kernel)];kernel_rfl) | (rw [if_neg (by decide +kernel)];exact ⟨rfl,rfl⟩))
    (fun os started H enc _ => fnShards_lifted os started H enc)
end Go.Proofs.Ytgkbmiaimjpbfaa.Ev
namespace Go.Proofs.Ytgkbmiaimjpbfaa
theorem fnShards_holds : Rows.FnShardsSaid := Ev.fnShards_over
#print axioms fnShards_holds
end Go.Proofs.Ytgkbmiaimjpbfaa
