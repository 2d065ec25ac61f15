/- Part 7 of the proof that the law named in the last part returns true at every argument: an evaluator of the program, shown sound, and its runs. No further conditions. -/
import Derived.Test.YtadaeiahfidodaaGreatML2006
import Derived.Test.YtadaeiahfidodaaGreatRows
namespace Go.Proofs.YtadaeiahfidodaaGreat.Ev
open Go Go.RowKit
set_option linter.unusedVariables false
set_option maxRecDepth 100000
theorem fnExactToldBy_run (vs : List V) (h : hasTs Tryz.prog [26,2] vs) : oc.call 4 vs = some (.bool true,[]) := by
  obtain ⟨v0,q0,rfl,h0,v1,q1,rfl,h1,h⟩ := h
  simp only [hasTs] at h
  subst h
  obtain ⟨a0,rfl,b0⟩ := dCl h0
  obtain ⟨a1,rfl,_⟩ := dInt h1
  exact law_told a0 a1 b0
theorem fnExactToldBy_lifted (os : Os) (started : os.Started) (H : Type) (enc : TypeId × Value → H) :
    ReturnsInHanded {} Tryz.checked os 4 .any (Rows.fnExactToldBySpec.pre6 enc Tryz.prog Tryz.f4 Rows.fnExactToldByRow.domain false) (Rows.fnExactToldBySpec.post enc Tryz.prog Tryz.f4 false true false false) := by
  refine returnsInHanded_of_change_sized (C:=Tryz.checked) (by kernel_rfl) started (by kernel_rfl) Tryz.func4
    (ChangeSpec.witness6 (enc:=enc) (C:=Tryz.checked) false ⟨#[],#[.agg #[.slice none 0 0,.slice none 0 0,.slice none 0 0],.int .i64 0],[]⟩ 8 (by kernel_rfl) (by kernel_rfl) (by kernel_rfl) (by kernel_rfl)) ?_
  intro W base args ds gs before hval hW hcnd hsz _
  refine law_calls oc_ok rfl ?_ (tb:=4) rfl Tryz.underlying4 (by kernel_rfl) (by kernel_rfl) (by kernel_rfl) fnExactToldBy_run W base args ds gs before hval hW hsz
  intro K ds hds
  match ds,hds with
  | [_,_],_ => rfl
theorem fnExactToldBy_over : Rows.fnExactToldByRow.holds Tryz.pinned (OpenSpec.ofChange Rows.fnExactToldBySpec) :=
  OpenClaim.holds_of_wide 4 Tryz.f4 rfl rfl rfl rfl rfl rfl rfl ⟨rfl,rfl,rfl,rfl,rfl⟩ rfl rfl rfl rfl rfl (by kernel_rfl) Tryz.func4 (by kernel_rfl)
    (of_decide_eq_true (by kernel_rfl)) (by unfold Func.isWrapper;first | (rw [if_pos (by decide +kernel)];kernel_rfl) | (rw [if_neg (by decide +kernel)];exact ⟨rfl,rfl⟩))
    (fun os started H enc _ => fnExactToldBy_lifted os started H enc)
end Go.Proofs.YtadaeiahfidodaaGreat.Ev
namespace Go.Proofs.YtadaeiahfidodaaGreat
theorem fnExactToldBy_holds : Rows.FnExactToldBySaid := Ev.fnExactToldBy_over
#print axioms fnExactToldBy_holds
end Go.Proofs.YtadaeiahfidodaaGreat
