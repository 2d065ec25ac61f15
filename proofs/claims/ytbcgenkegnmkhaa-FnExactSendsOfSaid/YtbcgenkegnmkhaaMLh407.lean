/- Part 7 of the proof that the law named in the last part returns true at every argument: an evaluator of the program, shown sound, and its runs. No further conditions. -/
import Derived.Test.YtbcgenkegnmkhaaMLh406
import Derived.Test.YtbcgenkegnmkhaaRows
namespace Go.Proofs.Ytbcgenkegnmkhaa.Ev
open Go Go.RowKit
set_option linter.unusedVariables false
set_option maxRecDepth 100000
theorem fnExactSendsOf_run (vs : List V) (h : hasTs Try.prog [43,2,2,2,44,2] vs) : oc.call 5 vs = some (.bool true,[]) := by
  obtain ⟨v0,q0,rfl,h0,v1,q1,rfl,h1,v2,q2,rfl,h2,v3,q3,rfl,h3,v4,q4,rfl,h4,v5,q5,rfl,h5,h⟩ := h
  simp only [hasTs] at h
  subst h
  obtain ⟨a0,rfl,b0⟩ := dNodes h0
  obtain ⟨a1,rfl,_⟩ := dInt h1
  obtain ⟨a2,rfl,_⟩ := dInt h2
  obtain ⟨a3,rfl,_⟩ := dInt h3
  obtain ⟨a4,rfl,b4⟩ := dEts h4
  obtain ⟨a5,rfl,_⟩ := dInt h5
  exact law_sends a0 a1 a2 a3 a4 a5 b0 b4
theorem fnExactSendsOf_lifted (os : Os) (started : os.Started) (H : Type) (enc : TypeId × Value → H) :
    ReturnsInHanded {} Try.checked os 5 .any (Rows.fnExactSendsOfSpec.pre6 enc Try.prog Try.f5 Rows.fnExactSendsOfRow.domain false) (Rows.fnExactSendsOfSpec.post enc Try.prog Try.f5 false true false false) := by
  refine returnsInHanded_of_change_sized (C:=Try.checked) (by kernel_rfl) started (by kernel_rfl) Try.func5
    (ChangeSpec.witness6 (enc:=enc) (C:=Try.checked) false ⟨#[],#[.slice none 0 0,.int .i64 0,.int .i64 0,.int .i64 0,.slice none 0 0,.int .i64 0],[]⟩ 8 (by kernel_rfl) (by kernel_rfl) (by kernel_rfl) (by kernel_rfl)) ?_
  intro W base args ds gs before hval hW hcnd hsz _
  refine law_calls oc_ok rfl ?_ (tb:=4) rfl Try.underlying4 (by kernel_rfl) (by kernel_rfl) (by kernel_rfl) fnExactSendsOf_run W base args ds gs before hval hW hsz
  intro K ds hds
  match ds,hds with
  | [_,_,_,_,_,_],_ => rfl
theorem fnExactSendsOf_over : Rows.fnExactSendsOfRow.holds Try.pinned (OpenSpec.ofChange Rows.fnExactSendsOfSpec) :=
  OpenClaim.holds_of_wide 5 Try.f5 rfl rfl rfl rfl rfl rfl rfl ⟨rfl,rfl,rfl,rfl,rfl⟩ rfl rfl rfl rfl rfl (by kernel_rfl) Try.func5 (by kernel_rfl)
    (of_decide_eq_true (by kernel_rfl)) (by unfold Func.isWrapper;first | (rw [if_pos (by decide +kernel)];kernel_rfl) | (rw [if_neg (by decide +kernel)];exact ⟨rfl,rfl⟩))
    (fun os started H enc _ => fnExactSendsOf_lifted os started H enc)
end Go.Proofs.Ytbcgenkegnmkhaa.Ev
namespace Go.Proofs.Ytbcgenkegnmkhaa
theorem fnExactSendsOf_holds : Rows.FnExactSendsOfSaid := Ev.fnExactSendsOf_over
#print axioms fnExactSendsOf_holds
end Go.Proofs.Ytbcgenkegnmkhaa
