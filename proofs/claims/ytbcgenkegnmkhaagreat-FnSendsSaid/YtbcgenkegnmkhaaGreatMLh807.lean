/- Part 7 of the proof that the law named in the last part returns true at every argument: an evaluator of the program, shown sound, and its runs. No further conditions. -/
import Derived.Test.YtbcgenkegnmkhaaGreatMLh806
import Derived.Test.YtbcgenkegnmkhaaGreatRows
namespace Go.Proofs.YtbcgenkegnmkhaaGreat.Ev
open Go Go.RowKit
set_option linter.unusedVariables false
set_option maxRecDepth 100000
theorem fnSends_run (vs:List V) (h:hasTs Tryz.prog [22] vs):oc.call 3 vs=some (.bool true,[]):=by
 obtain⟨v0,q0,rfl,h0,h⟩:=h
 simp only[hasTs] at h
 subst h
 obtain⟨a0,rfl,b0⟩:=dBytes h0
 exact law_fnSends a0 b0
theorem fnSends_lifted (os:Os) (started:os.Started) (H:Type) (enc:TypeId×Value→H) :
  ReturnsInHanded {} Tryz.checked os 3 .any (Rows.fnSendsSpec.pre6 enc Tryz.prog Tryz.f3 Rows.fnSendsRow.domain false) (Rows.fnSendsSpec.post enc Tryz.prog Tryz.f3 false true false false):=by
 refine returnsInHanded_of_change_sized (C:=Tryz.checked) (by kernel_rfl) started (by kernel_rfl) Tryz.func3
  (ChangeSpec.witness6 (enc:=enc) (C:=Tryz.checked) false ⟨#[],#[.slice none 0 0],[]⟩ 8 (by kernel_rfl) (by kernel_rfl) (by kernel_rfl) (by kernel_rfl)) ?_
 intro W base args ds gs before hval hW hcnd hsz _
 refine law_calls oc_ok rfl ?_ (tb:=4) rfl Tryz.underlying4 (by kernel_rfl) (by kernel_rfl) (by kernel_rfl) fnSends_run W base args ds gs before hval hW hsz
 intro K ds hds
 match ds,hds with
 | [_],_=>rfl
theorem fnSends_over:Rows.fnSendsRow.holds Tryz.pinned (OpenSpec.ofChange Rows.fnSendsSpec) :=
 OpenClaim.holds_of_wide 3 Tryz.f3 rfl rfl rfl rfl rfl rfl rfl ⟨rfl,rfl,rfl,rfl,rfl⟩ rfl rfl rfl rfl rfl (by kernel_rfl) Tryz.func3 (by kernel_rfl)
  (of_decide_eq_true (by kernel_rfl)) (by unfold Func.isWrapper;first|(rw[if_pos (by decide +kernel)];kernel_rfl)|(rw[if_neg (by decide +kernel)];exact⟨rfl,rfl⟩))
  (fun os started H enc _=>fnSends_lifted os started H enc)
end Go.Proofs.YtbcgenkegnmkhaaGreat.Ev
namespace Go.Proofs.YtbcgenkegnmkhaaGreat
theorem fnSends_holds:Rows.FnSendsSaid:=Ev.fnSends_over
#print axioms fnSends_holds
end Go.Proofs.YtbcgenkegnmkhaaGreat
