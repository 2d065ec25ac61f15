/- Part 3 of the proof that the law named in the last part returns true at every argument: an evaluator of the program, shown sound, and its runs. No further conditions. -/
import Derived.Test.YtbcgenkegnmkhaaGreatMLh802
import Derived.Orders
import Derived.WalkKit
import Derived.ProofKit
import Derived.OpenShut
import Derived.ShutString
import Derived.ChangeOld
import Derived.Below
import Derived.Carry
import Derived.SizedLaws
import Derived.Test.YtbcgenkegnmkhaaGreatProg
import Derived.KernelRfl
namespace Go.Proofs.YtbcgenkegnmkhaaGreat.Ev
open Go
set_option linter.unusedSectionVars false
set_option linter.unusedSimpArgs false
mutual
theorem zEl:∀{x y:V},x.alike y=true->y.alike x=true
 | .agg xs,y,h=>by
  simp only[V.alike] at h;cases y with
  | agg ys=>simp only[V.aggOf] at h;simp only[V.alike,V.aggOf];exact xQ h
  | _=>simp[V.aggOf] at h
 | .int ..,y,h=>by cases y<;>simp_all [V.alike,V.aggOf]
 | .bool _,y,h=>by cases y<;>simp_all [V.alike,V.aggOf]
 | .str _,y,h=>by cases y<;>simp_all [V.alike,V.aggOf]
 | .lst ..,y,h=>by cases y<;>simp_all [V.alike,V.aggOf]
 | .emp _,y,h=>by cases y<;>simp_all [V.alike,V.aggOf]
 | .tup _,y,h=>by cases y<;>simp_all [V.alike,V.aggOf]
 | .ref ..,y,h=>by cases y<;>simp_all [V.alike,V.aggOf]
 | .plc ..,y,h=>by cases y<;>simp_all [V.alike,V.aggOf]
 | .ptr ..,y,h=>by cases y<;>simp_all [V.alike,V.aggOf]
 | .vptr _,y,h=>by cases y<;>simp_all [V.alike,V.aggOf]
 | .clo ..,y,h=>by cases y<;>simp_all [V.alike,V.aggOf]
 | .iol ..,y,h=>by cases y<;>simp_all [V.alike,V.aggOf]
 | .iop _,y,h=>by cases y<;>simp_all [V.alike,V.aggOf]
 | .und,y,h=>by cases y<;>simp_all [V.alike,V.aggOf]
theorem xQ:∀{xs ys:List V},V.alikeL xs ys=true->V.alikeL ys xs=true
 | [],ys,h=>by simp only[V.alikeL,List.isEmpty_iff] at h;subst h;rfl
 | x::r,[],h=>by simp[V.alikeL] at h
 | x::r,y::q,h=>by
  simp only[V.alikeL,Bool.and_eq_true] at h ⊢;exact⟨zEl h.1,xQ h.2⟩
end
mutual
theorem zHe:∀{x y z:V},x.alike y=true->y.alike z=true->x.alike z=true
 | .agg xs,y,z,h,h2=>by
  simp only[V.alike] at h ⊢;cases y with
  | agg ys =>
   simp only[V.aggOf] at h;simp only[V.alike] at h2;cases z with
   | agg zs=>simp only[V.aggOf] at h2 ⊢;exact zB6 h h2
   | _=>simp[V.aggOf] at h2
  | _=>simp[V.aggOf] at h
 | .int ..,y,z,h,h2=>by cases y<;>cases z<;>simp_all [V.alike,V.aggOf]
 | .bool _,y,z,h,h2=>by cases y<;>cases z<;>simp_all [V.alike,V.aggOf]
 | .str _,y,z,h,h2=>by cases y<;>cases z<;>simp_all [V.alike,V.aggOf]
 | .lst ..,y,z,h,h2=>by cases y<;>cases z<;>simp_all [V.alike,V.aggOf]
 | .emp _,y,z,h,h2=>by cases y<;>cases z<;>simp_all [V.alike,V.aggOf]
 | .tup _,y,z,h,h2=>by cases y<;>cases z<;>simp_all [V.alike,V.aggOf]
 | .ref ..,y,z,h,h2=>by cases y<;>cases z<;>simp_all [V.alike,V.aggOf]
 | .plc ..,y,z,h,h2=>by cases y<;>cases z<;>simp_all [V.alike,V.aggOf]
 | .ptr ..,y,z,h,h2=>by cases y<;>cases z<;>simp_all [V.alike,V.aggOf]
 | .vptr _,y,z,h,h2=>by cases y<;>cases z<;>simp_all [V.alike,V.aggOf]
 | .clo ..,y,z,h,h2=>by cases y<;>cases z<;>simp_all [V.alike,V.aggOf]
 | .iol ..,y,z,h,h2=>by cases y<;>cases z<;>simp_all [V.alike,V.aggOf]
 | .iop _,y,z,h,h2=>by cases y<;>cases z<;>simp_all [V.alike,V.aggOf]
 | .und,y,z,h,h2=>by cases y<;>cases z<;>simp_all [V.alike,V.aggOf]
theorem zB6:∀{xs ys zs:List V},V.alikeL xs ys=true->V.alikeL ys zs=true->V.alikeL xs zs=true
 | [],ys,zs,h,h2=>by simp only[V.alikeL,List.isEmpty_iff] at h;subst h;exact h2
 | x::r,[],zs,h,h2=>by simp[V.alikeL] at h
 | x::r,y::q,[],h,h2=>by simp[V.alikeL] at h2
 | x::r,y::q,z::p,h,h2=>by
  simp only[V.alikeL,Bool.and_eq_true] at h h2 ⊢;exact⟨zHe h.1 h2.1,zB6 h.2 h2.2⟩
end
def Alk (a b:Option Ob):Prop :=
 match a,b with
 | none,none=>True
 | some x,some y=>x.bx=y.bx/\x.sz=y.sz/\V.alikeL x.xs y.xs=true
 | _,_=>False
theorem Alk.refl:∀a,Alk a a
 | none=>trivial
 | some x=>⟨rfl,rfl,vS _⟩
theorem Alk.symm:∀{a b},Alk a b->Alk b a
 | none,none,_=>trivial
 | some x,some y,h=>⟨h.1.symm,h.2.1.symm,xQ h.2.2⟩
 | none,some _,h=>h.elim
 | some _,none,h=>h.elim
theorem Alk.trans:∀{a b c},Alk a b->Alk b c->Alk a c
 | none,none,none,_,_=>trivial
 | some x,some y,some z,h,k=>⟨h.1.trans k.1,h.2.1.trans k.2.1,zB6 h.2.2 k.2.2⟩
 | none,some _,_,h,_=>h.elim
 | some _,none,_,h,_=>h.elim
 | none,none,some _,_,k=>k.elim
 | some _,some _,none,_,k=>k.elim
structure Mv (W X:Nat->Prop) (s s':St):Prop where
 env:s'.env=s.env
 w:∀o,¬W o->zO s'.obs o=zO s.obs o
 x:∀o,¬X o->Alk (zO s.obs o) (zO s'.obs o)
theorem Mv.refl (W X:Nat->Prop) (s:St):Mv W X s s:=⟨rfl,fun _ _=>rfl,fun _ _=>Alk.refl _⟩
theorem Mv.trans {W X:Nat->Prop} {s s1 s2:St} (a:Mv W X s s1) (b:Mv W X s1 s2):Mv W X s s2 :=
 ⟨b.env.trans a.env,fun o ho=>(b.w o ho).trans (a.w o ho),fun o ho=>(a.x o ho).trans (b.x o ho)⟩
def Ag (R:Nat->Prop) (s σ:St):Prop:=∀o,R o->zO σ.obs o=zO s.obs o
def May (R W X:Nat->Prop) (A:List (Nat×Acc)):Prop :=
 ∀o a,(o,a)∈A->match a with
  | .m=>True
  | .r=>R o
  | .w=>R o/\W o
  | .x=>R o/\W o/\X o
section
variable {R W X : Nat->Prop} {s s' σ : St}
theorem May.left {A B:List (Nat×Acc)} (h:May R W X (A++B)):May R W X A:=fun o a ha=>h o a (List.mem_append_left _ ha)
theorem May.right {A B:List (Nat×Acc)} (h:May R W X (A++B)):May R W X B:=fun o a ha=>h o a (List.mem_append_right _ ha)
theorem Ag.put (h:Ag R s σ) (o:Nat) (x:Ob):Ag R { s with obs:=xC s.obs o x } { σ with obs:=xC σ.obs o x }:=by
 intro q hq
 by_cases e:q=o
 ·subst e;simp only[qG]
 ·simp only[zT e];exact h q hq
theorem Ag.del (h:Ag R s σ) (o:Nat):Ag R { s with obs:=kT s.obs o } { σ with obs:=kT σ.obs o }:=by
 intro q hq
 by_cases e:q=o
 ·subst e;simp only[qS]
 ·simp only[qT e];exact h q hq
theorem zCg {o:Nat} {ob:Ob} (hW:W o) (hX:X o\/Alk (zO s.obs o) (some ob)):Mv W X s { s with obs:=xC s.obs o ob }:=by
 refine⟨rfl,fun q hq=>?_,fun q hq=>?_⟩
 ·have e:q≠o:=fun e=>hq (e ▸ hW)
  simp only[zT e]
 ·by_cases e:q=o
  ·subst e
   simp only[qG];exact hX.resolve_left hq
  ·simp only[zT e];exact Alk.refl _
theorem qLf {o:Nat} (hW:W o) (hX:X o):Mv W X s { s with obs:=kT s.obs o }:=by
 refine⟨rfl,fun q hq=>?_,fun q hq=>?_⟩
 ·have e:q≠o:=fun e=>hq (e ▸ hW)
  simp only[qT e]
 ·have e:q≠o:=fun e=>hq (e ▸ hX)
  simp only[qT e];exact Alk.refl _
theorem zZb (h:Ag R s σ) {o i:Nat} {fs:List Nat} {ver n:Nat} (hR:R o):σ.at o i fs ver n=s.at o i fs ver n:=by
 unfold St.at;rw[h o hR]
theorem zKc {o i:Nat} {fs:List Nat} {ver n:Nat} {a:Nat×List V×Ob} (h:s.at o i fs ver n=some a):zO s.obs o=some a.2.2/\a.2.2.get i fs=some (.lst true a.1 a.2.1):=by
 unfold St.at at h;split at h
 ·cases h
 ·rename_i ob ho
  split at h
  ·split at h
   ·rename_i hg
    split at h
    ·cases h;exact⟨ho,hg⟩
    ·cases h
   ·cases h
  ·cases h
theorem zHl {ob ob':Ob} {i:Nat} {fs:List Nat} {old t:V} (hg:ob.get i fs=some old) (ha:old.alike t=true) (hs:ob.set i fs t=some ob') {v:Nat}:Alk (some ob) (some { ob' with ver:=v }):=by
 obtain⟨x,x',hx,hgx,hsx,halx,hob'⟩:=zLn hg ha hs;rw[hob'];exact⟨rfl,rfl,xL hx halx⟩
theorem qFw {o i:Nat} {fs:List Nat} {ver n:Nat} {r:Nat×List V×St} (h:s.take o i fs ver n=some r) (hW:W o):Mv W X s r.2.2:=by
 unfold St.take at h;split at h
 ·cases h
 ·rename_i a ha
  obtain⟨h1,h2⟩:=zKc ha;obtain⟨ob',hs,e⟩:=zE h;cases e;exact zCg hW (.inr (by rw[h1];exact zHl h2 rfl hs))
theorem qDz (hA:Ag R s σ) {o i:Nat} {fs:List Nat} {ver n:Nat} {r:Nat×List V×St} (h:s.take o i fs ver n=some r) (hR:R o):∃σ',σ.take o i fs ver n=some (r.1,r.2.1,σ')/\Ag R r.2.2 σ':=by
 unfold St.take at h ⊢;rw[zZb hA hR];split at h
 ·cases h
 ·rename_i a ha
  obtain⟨ob',hs,e⟩:=zE h;cases e;simp only[hs,zJ];exact⟨_,rfl,hA.put o _⟩
theorem zXc {o i:Nat} {fs:List Nat} {ver n:Nat} {r:Nat×List V×St} (h:s.takeQ o i fs ver n=some r) (hW:W o):Mv W X s r.2.2:=by
 unfold St.takeQ at h;split at h
 ·cases h
 ·rename_i a ha
  obtain⟨h1,h2⟩:=zKc ha;obtain⟨ob',hs,e⟩:=zE h;cases e;exact zCg hW (.inr (by rw[h1];exact zHl h2 rfl hs))
theorem zYz (hA:Ag R s σ) {o i:Nat} {fs:List Nat} {ver n:Nat} {r:Nat×List V×St} (h:s.takeQ o i fs ver n=some r) (hR:R o):∃σ',σ.takeQ o i fs ver n=some (r.1,r.2.1,σ')/\Ag R r.2.2 σ':=by
 unfold St.takeQ at h ⊢;rw[zZb hA hR];split at h
 ·cases h
 ·rename_i a ha
  obtain⟨ob',hs,e⟩:=zE h;cases e;simp only[hs,zJ];exact⟨_,rfl,hA.put o _⟩
theorem zP2 {o lo n:Nat} {r:Nat×List V×St} (h:s.give o lo n=some r) (hW:W o) (hX:X o):Mv W X s r.2.2:=by
 unfold St.give at h;split at h
 ·cases h
 ·split at h
  ·cases h;exact qLf hW hX
  ·cases h
theorem zNf (hA:Ag R s σ) {o lo n:Nat} {r:Nat×List V×St} (h:s.give o lo n=some r) (hR:R o):∃σ',σ.give o lo n=some (r.1,r.2.1,σ')/\Ag R r.2.2 σ':=by
 unfold St.give at h ⊢;rw[hA o hR];split at h
 ·cases h
 ·rename_i ob ho
  split at h
  ·rename_i hc
   cases h;simp only[if_pos hc];exact⟨_,rfl,hA.del o⟩
  ·cases h
mutual
theorem zV5:∀{v:V} {s:St} {r:V×St},v.fz s=some r->May R W X v.accF->Mv W X s r.2
 | .agg xs,s,r,h,m=>by
  simp only[V.fz] at h;obtain⟨q,hq,e⟩:=zE h;cases e;exact zP9 hq (by simpa only[V.accF] using m)
 | .ref o lo n,s,r,h,m=>by
  simp only[V.fz] at h;obtain⟨q,hq,e⟩:=zE h;cases e;obtain⟨_,h2,h3⟩:=m o .x (by simp[V.accF]);exact zP2 hq h2 h3
 | .plc o i fs ver n,s,r,h,m=>by
  simp only[V.fz] at h;obtain⟨q,hq,e⟩:=zE h;cases e;obtain⟨_,h2⟩:=m o .w (by simp[V.accF]);exact zXc hq h2
 | .lst own sz xs,s,r,h,m=>by
  cases own
  ·simp only[V.fz,Option.some.injEq] at h;subst h;exact Mv.refl ..
  ·cases xs with
   | nil=>simp only[V.fz,Option.some.injEq] at h;subst h;exact Mv.refl ..
   | cons x q=>simp[V.fz] at h
 | .int ..,s,r,h,m=>by simp only[V.fz,Option.some.injEq] at h;subst h;exact Mv.refl ..
 | .bool _,s,r,h,m=>by simp only[V.fz,Option.some.injEq] at h;subst h;exact Mv.refl ..
 | .str _,s,r,h,m=>by simp only[V.fz,Option.some.injEq] at h;subst h;exact Mv.refl ..
 | .emp _,s,r,h,m=>by simp only[V.fz,Option.some.injEq] at h;subst h;exact Mv.refl ..
 | .ptr ..,s,r,h,m=>by simp[V.fz] at h
 | .vptr _,s,r,h,m=>by simp[V.fz] at h
 | .clo ..,s,r,h,m=>by simp[V.fz] at h
 | .und,s,r,h,m=>by simp[V.fz] at h
 | .tup _,s,r,h,m=>by simp[V.fz] at h
 | .iol ..,s,r,h,m=>by simp[V.fz] at h
 | .iop _,s,r,h,m=>by simp[V.fz] at h
theorem zP9:∀{xs:List V} {s:St} {r:List V×St},V.fzL xs s=some r->May R W X (V.accFL xs)->Mv W X s r.2
 | [],s,r,h,m=>by simp only[V.fzL,Option.some.injEq] at h;subst h;exact Mv.refl ..
 | x::q,s,r,h,m=>by
  simp only[V.fzL] at h;split at h
  ·cases h
  ·rename_i a ha
   obtain⟨b,hb,e⟩:=zE h;cases e;simp only[V.accFL] at m;exact(zV5 ha m.left).trans (show Mv W X a.2 b.2 from zP9 hb m.right)
end
mutual
theorem zTl:∀{v:V} {s σ:St} {r:V×St},Ag R s σ->v.fz s=some r->May R W X v.accF->∃σ',v.fz σ=some (r.1,σ')/\Ag R r.2 σ'
 | .agg xs,s,σ,r,hA,h,m=>by
  simp only[V.fz] at h ⊢;obtain⟨q,hq,e⟩:=zE h;cases e;obtain⟨σ',h1,h2⟩:=zUk hA hq (by simpa only[V.accF] using m);rw[h1];exact⟨σ',rfl,h2⟩
 | .ref o lo n,s,σ,r,hA,h,m=>by
  simp only[V.fz] at h ⊢;obtain⟨q,hq,e⟩:=zE h;cases e;obtain⟨h1,_,_⟩:=m o .x (by simp[V.accF]);obtain⟨σ',k1,k2⟩:=zNf hA hq h1;rw[k1];exact⟨σ',rfl,k2⟩
 | .plc o i fs ver n,s,σ,r,hA,h,m=>by
  simp only[V.fz] at h ⊢;obtain⟨q,hq,e⟩:=zE h;cases e;obtain⟨h1,_⟩:=m o .w (by simp[V.accF]);obtain⟨σ',k1,k2⟩:=zYz hA hq h1;rw[k1];exact⟨σ',rfl,k2⟩
 | .lst own sz xs,s,σ,r,hA,h,m=>by
  cases own
  ·simp only[V.fz,Option.some.injEq] at h ⊢;subst h;exact⟨σ,rfl,hA⟩
  ·cases xs with
   | nil=>simp only[V.fz,Option.some.injEq] at h ⊢;subst h;exact⟨σ,rfl,hA⟩
   | cons x q=>simp[V.fz] at h
 | .int ..,s,σ,r,hA,h,m=>by simp only[V.fz,Option.some.injEq] at h ⊢;subst h;exact⟨σ,rfl,hA⟩
 | .bool _,s,σ,r,hA,h,m=>by simp only[V.fz,Option.some.injEq] at h ⊢;subst h;exact⟨σ,rfl,hA⟩
 | .str _,s,σ,r,hA,h,m=>by simp only[V.fz,Option.some.injEq] at h ⊢;subst h;exact⟨σ,rfl,hA⟩
 | .emp _,s,σ,r,hA,h,m=>by simp only[V.fz,Option.some.injEq] at h ⊢;subst h;exact⟨σ,rfl,hA⟩
 | .ptr ..,s,σ,r,hA,h,m=>by simp[V.fz] at h
 | .vptr _,s,σ,r,hA,h,m=>by simp[V.fz] at h
 | .clo ..,s,σ,r,hA,h,m=>by simp[V.fz] at h
 | .und,s,σ,r,hA,h,m=>by simp[V.fz] at h
 | .tup _,s,σ,r,hA,h,m=>by simp[V.fz] at h
 | .iol ..,s,σ,r,hA,h,m=>by simp[V.fz] at h
 | .iop _,s,σ,r,hA,h,m=>by simp[V.fz] at h
theorem zUk:∀{xs:List V} {s σ:St} {r:List V×St},Ag R s σ->V.fzL xs s=some r->May R W X (V.accFL xs)->∃σ',V.fzL xs σ=some (r.1,σ')/\Ag R r.2 σ'
 | [],s,σ,r,hA,h,m=>by simp only[V.fzL,Option.some.injEq] at h ⊢;subst h;exact⟨σ,rfl,hA⟩
 | x::q,s,σ,r,hA,h,m=>by
  simp only[V.fzL] at h ⊢;split at h
  ·cases h
  ·rename_i a ha
   obtain⟨b,hb,e⟩:=zE h;cases e;simp only[V.accFL] at m;obtain⟨σ1,h1,h2⟩:=zTl hA ha m.left;obtain⟨σ2,h3,h4⟩:=zUk h2 hb m.right;rw[h1];simp only[h3,zJ];exact⟨σ2,rfl,h4⟩
end
mutual
theorem qAt:∀{v:V} {s:St} {r:V×St},v.fzI s=some r->May R W X v.accF->Mv W X s r.2
 | .agg xs,s,r,h,m=>by
  simp only[V.fzI] at h;obtain⟨q,hq,e⟩:=zE h;cases e;exact zU6 hq (by simpa only[V.accF] using m)
 | .lst own sz xs,s,r,h,m=>by
  cases own
  ·simp only[V.fzI,V.fz,Option.some.injEq] at h;subst h;exact Mv.refl ..
  ·simp only[V.fzI,Option.some.injEq] at h;subst h;exact Mv.refl ..
 | .ref o lo n,s,r,h,m=>zV5 (v:=.ref o lo n) h m
 | .plc o i fs ver n,s,r,h,m=>zV5 (v:=.plc o i fs ver n) h m
 | .int ..,s,r,h,m=>by simp only[V.fzI,V.fz,Option.some.injEq] at h;subst h;exact Mv.refl ..
 | .bool _,s,r,h,m=>by simp only[V.fzI,V.fz,Option.some.injEq] at h;subst h;exact Mv.refl ..
 | .str _,s,r,h,m=>by simp only[V.fzI,V.fz,Option.some.injEq] at h;subst h;exact Mv.refl ..
 | .emp _,s,r,h,m=>by simp only[V.fzI,V.fz,Option.some.injEq] at h;subst h;exact Mv.refl ..
 | .ptr ..,s,r,h,m=>by simp[V.fzI,V.fz] at h
 | .vptr _,s,r,h,m=>by simp[V.fzI,V.fz] at h
 | .clo ..,s,r,h,m=>by simp[V.fzI,V.fz] at h
 | .und,s,r,h,m=>by simp[V.fzI,V.fz] at h
 | .tup _,s,r,h,m=>by simp[V.fzI,V.fz] at h
 | .iol ..,s,r,h,m=>by simp[V.fzI,V.fz] at h
 | .iop _,s,r,h,m=>by simp[V.fzI,V.fz] at h
theorem zU6:∀{xs:List V} {s:St} {r:List V×St},V.fzIL xs s=some r->May R W X (V.accFL xs)->Mv W X s r.2
 | [],s,r,h,m=>by simp only[V.fzIL,Option.some.injEq] at h;subst h;exact Mv.refl ..
 | x::q,s,r,h,m=>by
  simp only[V.fzIL] at h;split at h
  ·cases h
  ·rename_i a ha
   obtain⟨b,hb,e⟩:=zE h;cases e;simp only[V.accFL] at m;exact(qAt ha m.left).trans (show Mv W X a.2 b.2 from zU6 hb m.right)
end
mutual
theorem qAs:∀{v:V} {s σ:St} {r:V×St},Ag R s σ->v.fzI s=some r->May R W X v.accF->∃σ',v.fzI σ=some (r.1,σ')/\Ag R r.2 σ'
 | .agg xs,s,σ,r,hA,h,m=>by
  simp only[V.fzI] at h ⊢;obtain⟨q,hq,e⟩:=zE h;cases e;obtain⟨σ',h1,h2⟩:=zTz hA hq (by simpa only[V.accF] using m);rw[h1];exact⟨σ',rfl,h2⟩
 | .lst own sz xs,s,σ,r,hA,h,m=>by
  cases own
  ·simp only[V.fzI,V.fz,Option.some.injEq] at h ⊢;subst h;exact⟨σ,rfl,hA⟩
  ·simp only[V.fzI,Option.some.injEq] at h ⊢;subst h;exact⟨σ,rfl,hA⟩
 | .ref o lo n,s,σ,r,hA,h,m=>zTl (v:=.ref o lo n) hA h m
 | .plc o i fs ver n,s,σ,r,hA,h,m=>zTl (v:=.plc o i fs ver n) hA h m
 | .int ..,s,σ,r,hA,h,m=>by simp only[V.fzI,V.fz,Option.some.injEq] at h ⊢;subst h;exact⟨σ,rfl,hA⟩
 | .bool _,s,σ,r,hA,h,m=>by simp only[V.fzI,V.fz,Option.some.injEq] at h ⊢;subst h;exact⟨σ,rfl,hA⟩
 | .str _,s,σ,r,hA,h,m=>by simp only[V.fzI,V.fz,Option.some.injEq] at h ⊢;subst h;exact⟨σ,rfl,hA⟩
 | .emp _,s,σ,r,hA,h,m=>by simp only[V.fzI,V.fz,Option.some.injEq] at h ⊢;subst h;exact⟨σ,rfl,hA⟩
 | .ptr ..,s,σ,r,hA,h,m=>by simp[V.fzI,V.fz] at h
 | .vptr _,s,σ,r,hA,h,m=>by simp[V.fzI,V.fz] at h
 | .clo ..,s,σ,r,hA,h,m=>by simp[V.fzI,V.fz] at h
 | .und,s,σ,r,hA,h,m=>by simp[V.fzI,V.fz] at h
 | .tup _,s,σ,r,hA,h,m=>by simp[V.fzI,V.fz] at h
 | .iol ..,s,σ,r,hA,h,m=>by simp[V.fzI,V.fz] at h
 | .iop _,s,σ,r,hA,h,m=>by simp[V.fzI,V.fz] at h
theorem zTz:∀{xs:List V} {s σ:St} {r:List V×St},Ag R s σ->V.fzIL xs s=some r->May R W X (V.accFL xs)->∃σ',V.fzIL xs σ=some (r.1,σ')/\Ag R r.2 σ'
 | [],s,σ,r,hA,h,m=>by simp only[V.fzIL,Option.some.injEq] at h ⊢;subst h;exact⟨σ,rfl,hA⟩
 | x::q,s,σ,r,hA,h,m=>by
  simp only[V.fzIL] at h ⊢;split at h
  ·cases h
  ·rename_i a ha
   obtain⟨b,hb,e⟩:=zE h;cases e;simp only[V.accFL] at m;obtain⟨σ1,h1,h2⟩:=qAs hA ha m.left;obtain⟨σ2,h3,h4⟩:=zTz h2 hb m.right;rw[h1];simp only[h3,zJ];exact⟨σ2,rfl,h4⟩
end
theorem zRk {o lo n:Nat} {r:List V×St} (h:s.copyRow o lo n=some r) (hW:W o):Mv W X s r.2:=by
 unfold St.copyRow at h;split at h
 ·cases h
 ·rename_i ob ho
  split at h
  ·cases h;exact zCg hW (.inr (by rw[ho];exact⟨rfl,rfl,zA0 _⟩))
  ·cases h
theorem zSm (hA:Ag R s σ) {o lo n:Nat} {r:List V×St} (h:s.copyRow o lo n=some r) (hR:R o):∃σ',σ.copyRow o lo n=some (r.1,σ')/\Ag R r.2 σ':=by
 unfold St.copyRow at h ⊢;rw[hA o hR];split at h
 ·cases h
 ·rename_i ob ho
  split at h
  ·rename_i hc
   cases h;simp only[if_pos hc];exact⟨_,rfl,hA.put o _⟩
  ·cases h
theorem zS6 {o lo n:Nat} {r:List V×St} (h:s.moveRow o lo n=some r) (hW:W o):Mv W X s r.2:=by
 unfold St.moveRow at h;split at h
 ·cases h
 ·rename_i ob ho
  split at h
  ·cases h;exact zCg hW (.inr (by rw[ho];exact⟨rfl,rfl,zAr _ _ _⟩))
  ·cases h
theorem zS7 (hA:Ag R s σ) {o lo n:Nat} {r:List V×St} (h:s.moveRow o lo n=some r) (hR:R o):∃σ',σ.moveRow o lo n=some (r.1,σ')/\Ag R r.2 σ':=by
 unfold St.moveRow at h ⊢;rw[hA o hR];split at h
 ·cases h
 ·rename_i ob ho
  split at h
  ·rename_i hc
   cases h;simp only[if_pos hc];exact⟨_,rfl,hA.put o _⟩
  ·cases h
theorem zSr {o i:Nat} {fs:List Nat} {ver n:Nat} {r:List V×St} (h:s.copyPlc o i fs ver n=some r) (hW:W o):Mv W X s r.2:=by
 unfold St.copyPlc at h;split at h
 ·cases h
 ·rename_i a ha
  obtain⟨h1,h2⟩:=zKc ha;obtain⟨ob',hs,e⟩:=zE h;cases e;refine zCg hW (.inr ?_);rw[h1];exact zHl (v:=ob'.ver) h2 rfl hs
theorem zS2 (hA:Ag R s σ) {o i:Nat} {fs:List Nat} {ver n:Nat} {r:List V×St} (h:s.copyPlc o i fs ver n=some r) (hR:R o):∃σ',σ.copyPlc o i fs ver n=some (r.1,σ')/\Ag R r.2 σ':=by
 unfold St.copyPlc at h ⊢;rw[zZb hA hR];split at h
 ·cases h
 ·rename_i a ha
  obtain⟨ob',hs,e⟩:=zE h;cases e;simp only[hs,zJ];exact⟨_,rfl,hA.put o _⟩
theorem zPr {base:Nat} {y:V} {r:List V×St} (h:s.elems base y=some r) (m:May R W X (zWt base y)):Mv W X s r.2:=by
 unfold St.elems at h;split at h
 ·cases h;exact Mv.refl ..
 ·cases h;exact Mv.refl ..
 ·cases h;exact Mv.refl ..
 ·rename_i o lo n
  split at h
  ·rename_i hb
   obtain⟨q,hq,e⟩:=zE h;cases e;obtain⟨_,h2,h3⟩:=m o .x (by simp[zWt,hb]);exact zP2 hq h2 h3
  ·rename_i hb
   obtain⟨_,h2⟩:=m o .w (by simp[zWt,hb]);split at h
   ·exact zS6 h h2
   ·exact zRk h h2
 ·rename_i o i fs ver n
  obtain⟨_,h2⟩:=m o .w (by simp[zWt,V.accF]);exact zSr h h2
 ·cases h
theorem zXh (hA:Ag R s σ) {base:Nat} {y:V} {r:List V×St} (h:s.elems base y=some r) (m:May R W X (zWt base y)):∃σ',σ.elems base y=some (r.1,σ')/\Ag R r.2 σ':=by
 unfold St.elems at h ⊢;split at h
 ·cases h;exact⟨_,rfl,hA⟩
 ·cases h;exact⟨_,rfl,hA⟩
 ·cases h;exact⟨_,rfl,hA⟩
 ·rename_i o lo n
  split at h
  ·rename_i hb
   obtain⟨q,hq,e⟩:=zE h;cases e;obtain⟨h1,_,_⟩:=m o .x (by simp[zWt,hb]);obtain⟨σ',k1,k2⟩:=zNf hA hq h1;simp only[if_pos hb,k1,zJ];exact⟨_,rfl,k2⟩
  ·rename_i hb
   obtain⟨h1,_⟩:=m o .w (by simp[zWt,hb]);simp only[if_neg hb];split at h
   ·rename_i h0
    rw[if_pos h0];exact zS7 hA h h1
   ·rename_i h0
    rw[if_neg h0];exact zSm hA h h1
 ·rename_i o i fs ver n
  obtain⟨h1,_⟩:=m o .w (by simp[zWt,V.accF]);exact zS2 hA h h1
 ·cases h
theorem zW5 {x:V} {r:Nat×List V×St} (h:s.base x=some r) (m:May R W X x.accF):Mv W X s r.2.2:=by
 unfold St.base at h;split at h
 ·cases h;exact Mv.refl ..
 ·rename_i o n
  obtain⟨_,h2,h3⟩:=m o .x (by simp[V.accF]);exact zP2 h h2 h3
 ·rename_i o i fs ver n
  obtain⟨_,h2⟩:=m o .w (by simp[V.accF]);exact qFw h h2
 ·cases h
theorem qD0 (hA:Ag R s σ) {x:V} {r:Nat×List V×St} (h:s.base x=some r) (m:May R W X x.accF):∃σ',σ.base x=some (r.1,r.2.1,σ')/\Ag R r.2.2 σ':=by
 unfold St.base at h ⊢;split at h
 ·cases h;exact⟨_,rfl,hA⟩
 ·rename_i o n
  obtain⟨h1,_,_⟩:=m o .x (by simp[V.accF]);exact zNf hA h h1
 ·rename_i o i fs ver n
  obtain⟨h1,_⟩:=m o .w (by simp[V.accF]);exact qDz hA h h1
 ·cases h
end
theorem zPz:∀{fs:List Nat} {x y:V} {q:Nat},kS x fs=some y->q∈y.mention->q∈x.mention
 | [],x,y,q,h,hq=>by simp only[kS,Option.some.injEq] at h;subst h;exact hq
 | i::p,x,y,q,h,hq=>by
  cases x with
  | agg xs =>
   simp only[kS] at h;cases hx:xs[i]? with
   | none=>rw[hx] at h;cases h
   | some z =>
    rw[hx] at h;simp only at h;exact mem_mentionL.2 ⟨z,List.mem_of_getElem? hx,zPz h hq⟩
  | _=>simp[kS] at h
theorem zVe {ob:Ob} {i:Nat} {fs:List Nat} {x:V} {q:Nat} (h:ob.get i fs=some x) (hq:q∈x.mention):q∈V.mentionL ob.xs:=by
 unfold Ob.get at h;cases hx:ob.xs[i]? with
 | none=>rw[hx] at h;cases h
 | some z=>rw[hx] at h;exact mem_mentionL.2 ⟨z,List.mem_of_getElem? hx,zPz h hq⟩
theorem mem_accAll {a b:Acc} {l:List Nat} {o:Nat}:(o,b)∈zA9 a l↔o∈l/\b=a:=by
 unfold zA9;constructor
 ·intro h
  obtain⟨q,hq,e⟩:=List.mem_map.1 h;cases e;exact⟨hq,rfl⟩
 ·rintro⟨h,rfl⟩
  exact List.mem_map.2 ⟨o,h,rfl⟩
mutual
theorem zH4 {o:Nat}:∀{v:V} {s:St} {r:V×St},v.fz s=some r->zO s.obs o=none->zO r.2.obs o=none
 | .agg xs,s,r,h,ho=>by
  simp only[V.fz] at h;obtain⟨q,hq,e⟩:=zE h;cases e;exact zIp hq ho
 | .ref k lo n,s,r,h,ho=>by
  simp only[V.fz] at h;obtain⟨q,hq,e⟩:=zE h;cases e;unfold St.give at hq;split at hq
  ·cases hq
  ·rename_i ob hk
   split at hq
   ·cases hq
    have e:o≠k:=fun e=>by subst e;rw[ho] at hk;cases hk
    simp only[qT e];exact ho
   ·cases hq
 | .plc k i fs ver n,s,r,h,ho=>by
  simp only[V.fz] at h;obtain⟨q,hq,e⟩:=zE h;cases e;unfold St.takeQ at hq;split at hq
  ·cases hq
  ·rename_i a ha
   obtain⟨ob',hs,e⟩:=zE hq;cases e;have e:o≠k:=fun e=>by subst e;rw[(zKc ha).1] at ho;cases ho
   simp only[zT e];exact ho
 | .lst own sz xs,s,r,h,ho=>by
  cases own
  ·simp only[V.fz,Option.some.injEq] at h;subst h;exact ho
  ·cases xs with
   | nil=>simp only[V.fz,Option.some.injEq] at h;subst h;exact ho
   | cons x q=>simp[V.fz] at h
 | .int ..,s,r,h,ho=>by simp only[V.fz,Option.some.injEq] at h;subst h;exact ho
 | .bool _,s,r,h,ho=>by simp only[V.fz,Option.some.injEq] at h;subst h;exact ho
 | .str _,s,r,h,ho=>by simp only[V.fz,Option.some.injEq] at h;subst h;exact ho
 | .emp _,s,r,h,ho=>by simp only[V.fz,Option.some.injEq] at h;subst h;exact ho
 | .ptr ..,s,r,h,ho=>by simp[V.fz] at h
 | .vptr _,s,r,h,ho=>by simp[V.fz] at h
 | .clo ..,s,r,h,ho=>by simp[V.fz] at h
 | .und,s,r,h,ho=>by simp[V.fz] at h
 | .tup _,s,r,h,ho=>by simp[V.fz] at h
 | .iol ..,s,r,h,ho=>by simp[V.fz] at h
 | .iop _,s,r,h,ho=>by simp[V.fz] at h
theorem zIp {o:Nat}:∀{xs:List V} {s:St} {r:List V×St},V.fzL xs s=some r->zO s.obs o=none->zO r.2.obs o=none
 | [],s,r,h,ho=>by simp only[V.fzL,Option.some.injEq] at h;subst h;exact ho
 | x::q,s,r,h,ho=>by
  simp only[V.fzL] at h;split at h
  ·cases h
  ·rename_i a ha
   obtain⟨b,hb,e⟩:=zE h;cases e;have h1:=zH4 ha ho;exact(zIp hb h1:zO b.2.obs o=none)
end
mutual
theorem zIc {o:Nat}:∀{v:V} {s:St} {r:V×St},v.fzI s=some r->zO s.obs o=none->zO r.2.obs o=none
 | .agg xs,s,r,h,ho=>by
  simp only[V.fzI] at h;obtain⟨q,hq,e⟩:=zE h;cases e;exact zG6 hq ho
 | .lst own sz xs,s,r,h,ho=>by
  cases own
  ·simp only[V.fzI,V.fz,Option.some.injEq] at h;subst h;exact ho
  ·simp only[V.fzI,Option.some.injEq] at h;subst h;exact ho
 | .ref k lo n,s,r,h,ho=>zH4 (v:=.ref k lo n) h ho
 | .plc k i fs ver n,s,r,h,ho=>zH4 (v:=.plc k i fs ver n) h ho
 | .int ..,s,r,h,ho=>by simp only[V.fzI,V.fz,Option.some.injEq] at h;subst h;exact ho
 | .bool _,s,r,h,ho=>by simp only[V.fzI,V.fz,Option.some.injEq] at h;subst h;exact ho
 | .str _,s,r,h,ho=>by simp only[V.fzI,V.fz,Option.some.injEq] at h;subst h;exact ho
 | .emp _,s,r,h,ho=>by simp only[V.fzI,V.fz,Option.some.injEq] at h;subst h;exact ho
 | .ptr ..,s,r,h,ho=>by simp[V.fzI,V.fz] at h
 | .vptr _,s,r,h,ho=>by simp[V.fzI,V.fz] at h
 | .clo ..,s,r,h,ho=>by simp[V.fzI,V.fz] at h
 | .und,s,r,h,ho=>by simp[V.fzI,V.fz] at h
 | .tup _,s,r,h,ho=>by simp[V.fzI,V.fz] at h
 | .iol ..,s,r,h,ho=>by simp[V.fzI,V.fz] at h
 | .iop _,s,r,h,ho=>by simp[V.fzI,V.fz] at h
theorem zG6 {o:Nat}:∀{xs:List V} {s:St} {r:List V×St},V.fzIL xs s=some r->zO s.obs o=none->zO r.2.obs o=none
 | [],s,r,h,ho=>by simp only[V.fzIL,Option.some.injEq] at h;subst h;exact ho
 | x::q,s,r,h,ho=>by
  simp only[V.fzIL] at h;split at h
  ·cases h
  ·rename_i a ha
   obtain⟨b,hb,e⟩:=zE h;cases e;have h1:=zIc ha ho;exact(zG6 hb h1:zO b.2.obs o=none)
end
section
variable {R W X : Nat->Prop} {s s' σ : St}
mutual
theorem zNt (hA:Ag R s σ):∀{v v':V},v.snap s=some v'->(∀o∈v.mention,R o)->v.snap σ=some v'
 | .agg xs,v',h,m=>by
  simp only[V.snap] at h ⊢;obtain⟨q,hq,e⟩:=zE h;rw[zQh hA hq (by simpa only[V.mention] using m)];exact congrArg some e
 | .ref o lo n,v',h,m=>by
  simp only[V.snap,zMm] at h ⊢;rw[hA o (m o (by simp[V.mention]))];exact h
 | .plc o i fs ver n,v',h,m=>by
  simp only[V.snap] at h ⊢;rw[zZb hA (m o (by simp[V.mention]))];exact h
 | .int ..,v',h,m=>h
 | .bool _,v',h,m=>h
 | .str _,v',h,m=>h
 | .lst ..,v',h,m=>h
 | .emp _,v',h,m=>h
 | .vptr _,v',h,m=>h
 | .ptr ..,v',h,m=>h
 | .clo ..,v',h,m=>h
 | .und,v',h,m=>h
 | .tup _,v',h,m=>h
 | .iol ..,v',h,m=>h
 | .iop _,v',h,m=>h
theorem zQh (hA:Ag R s σ):∀{xs ys:List V},V.snapL s xs=some ys->(∀o∈V.mentionL xs,R o)->V.snapL σ xs=some ys
 | [],ys,h,m=>h
 | x::r,ys,h,m=>by
  simp only[V.snapL] at h ⊢;split at h
  ·cases h
  ·rename_i a ha
   obtain⟨b,hb,e⟩:=zE h;rw[zNt hA ha (fun o ho=>m o (by simp[V.mentionL,ho])),zQh hA hb (fun o ho=>m o (by simp[V.mentionL,ho]))];exact congrArg some e
end
theorem zQg (hA:Ag R s σ) {v v':V} (h:v.snapP s=some v') (m:∀o∈v.mention++v.mention.flatMap (vA s.obs),R o):v.snapP σ=some v':=by
 unfold V.snapP at h ⊢;split at h
 ·rename_i o i fs
  rw[hA o (m o (by simp[V.mention]))];cases ho:zO s.obs o with
  | none=>rw[ho] at h;cases h
  | some ob =>
   rw[ho] at h;simp only at h ⊢;cases hg:ob.get i fs with
   | none=>rw[hg] at h;cases h
   | some x =>
    rw[hg] at h;simp only at h ⊢;split at h
    ·rename_i hc
     rw[if_pos hc];obtain⟨y,hy,e⟩:=zE h;rw[zNt hA hy (fun q hq=>?_)]
     ·exact congrArg some e
     ·rcases hc with hb|he
      ·refine m q (List.mem_append_right _ (List.mem_flatMap.2 ⟨o,by simp[V.mention],?_⟩))
       simp only[vA,ho,Option.elim_some,if_pos hb];exact zVe hg hq
      ·rw[List.isEmpty_iff.1 he] at hq;cases hq
    ·cases h
 ·exact zNt hA h (fun o ho=>m o (List.mem_append_left _ ho))
theorem zLv (hA:Ag R s σ):∀{xs ys:List V},V.snapPL s xs=some ys->(∀o∈V.mentionL xs++(V.mentionL xs).flatMap (vA s.obs),R o)->V.snapPL σ xs=some ys
 | [],ys,h,m=>h
 | x::r,ys,h,m=>by
  simp only[V.snapPL] at h ⊢;split at h
  ·cases h
  ·rename_i a ha
   obtain⟨b,hb,e⟩:=zE h
   have m1:∀o∈x.mention++x.mention.flatMap (vA s.obs),R o:=by
    intro o ho;refine m o ?_;simp only[V.mentionL,List.mem_append,List.flatMap_append] at ho ⊢;rcases ho with ho|ho
    ·exact .inl (.inl ho)
    ·exact .inr (.inl ho)
   have m2:∀o∈V.mentionL r++(V.mentionL r).flatMap (vA s.obs),R o:=by
    intro o ho;refine m o ?_;simp only[V.mentionL,List.mem_append,List.flatMap_append] at ho ⊢;rcases ho with ho|ho
    ·exact .inl (.inr ho)
    ·exact .inr (.inr ho)
   rw[zQg hA ha m1,zLv hA hb m2];exact congrArg some e
theorem zZr (hA:Ag R s σ) {v v':V} (h:v.snapA s=some v') (m:∀o∈v.mention++v.mention.flatMap (vA s.obs),R o):v.snapA σ=some v':=by
 unfold V.snapA at h ⊢;split at h
 ·obtain⟨y,hy,e⟩:=zE h
  rw[zLv hA hy (by simpa only[V.mention] using m)];exact congrArg some e
 ·exact zQg hA h m
theorem zE5 (hA:Ag R s σ):∀{vs asv:List V} {ws:List V} {ms:List Md},jI s ms vs=some asv->(∀v∈ws,True)->(∀(i:Nat) v w,vs[i]? = some v->ws[i]? = some w->ms.getD i .snap = .snap->v=w)->vs.length=ws.length->May R W X (zH7 s.obs ms ws)->jI σ ms vs=some asv
 | [],asv,ws,ms,h,_,hw,hl,m=>h
 | v::r,asv,[],ms,h,_,hw,hl,m=>by simp at hl
 | v::r,asv,w::ws,ms,h,_,hw,hl,m=>by
  simp only[jI] at h ⊢;simp only[zH7] at m
  have hw':∀(i:Nat) v w,r[i]? = some v->ws[i]? = some w->ms.tail.getD i .snap = .snap->v=w:=by
   intro i v' w' h1 h2 h3;refine hw (i+1) v' w' h1 h2 ?_;cases ms with
   | nil=>simp
   | cons a b=>simpa using h3
  cases hm:ms.headD .snap with
  | snap =>
   rw[hm] at h m;simp only at h m ⊢;have hvw:v=w:=hw 0 v w rfl rfl (by cases ms<;>first|rfl|exact hm);split at h
   ·cases h
   ·rename_i a ha
    obtain⟨b,hb,e⟩:=zE h
    have h1:∀o∈v.mention++v.mention.flatMap (vA s.obs),R o:=by
     intro o ho;rw[hvw] at ho;exact m.left o .r (mem_accAll.2 ⟨ho,rfl⟩)
    rw[zZr hA ha h1,zE5 hA hb (fun _ _=>trivial) hw' (by simpa using hl) m.right];exact congrArg some e
  | take =>
   rw[hm] at h;simp only at h ⊢;obtain⟨b,hb,e⟩:=zE h;rw[zE5 hA hb (fun _ _=>trivial) hw' (by simpa using hl) m.right];exact congrArg some e
  | io =>
   rw[hm] at h;simp only at h ⊢;obtain⟨b,hb,e⟩:=zE h;rw[zE5 hA hb (fun _ _=>trivial) hw' (by simpa using hl) m.right];exact congrArg some e
structure LMv (W X:Nat->Prop) (s s':St) (bs:List (Nat×Ob)):Prop where
 env:s'.env=s.env
 w:∀o,¬W o->zO s'.obs o=zO s.obs o
 x:∀o,¬X o->(∀p∈bs,p.1≠o)->Alk (zO s.obs o) (zO s'.obs o)
 b:∀p∈bs,W p.1/\(X p.1\/Alk (zO s.obs p.1) (some p.2))
theorem Mv.lmv (h:Mv W X s s'):LMv W X s s' []:=⟨h.env,h.w,fun o ho _=>h.x o ho,fun p hp=>by cases hp⟩
theorem zT6 {m:Md} {v:V} {a:V×St×List (Nat×Ob)} (h:qU s m v=some a) (hm:May R W X (zE9 s m v)):LMv W X s a.2.1 a.2.2:=by
 cases m with
 | snap =>
  simp only[qU] at h;split at h
  ·cases h
  ·simp only[Option.some.injEq] at h;subst h;exact(Mv.refl W X s).lmv
 | take =>
  simp only[qU] at h;split at h
  ·cases h
  ·rename_i q hq
   split at h
   ·cases h;exact(zV5 hq hm).lmv
   ·cases h
 | io =>
  simp only[qU] at h;simp only[zE9] at hm;split at h
  ·rename_i o lo n
   have hW:W o:=(hm.left o .w (mem_accAll.2 ⟨by simp[V.mention],rfl⟩)).2;split at h
   ·cases h
   ·rename_i ob ho
    split at h
    ·cases h
     refine⟨rfl,fun q hq=>?_,fun q hq hb=>?_,fun p hp=>?_⟩
     ·have e:q≠o:=fun e=>hq (e ▸ hW)
      simp only[qT e]
     ·have e:q≠o:=fun e=>hb (o,ob) (by simp) e.symm
      simp only[qT e];exact Alk.refl _
     ·simp only[List.mem_singleton] at hp
      subst hp;exact⟨hW,.inr (by simp only[ho];exact Alk.refl _)⟩
    ·cases h
  ·rename_i o i fs
   have hW:W o:=(hm.left o .w (mem_accAll.2 ⟨by simp[V.mention],rfl⟩)).2;split at h
   ·cases h
   ·rename_i ob ho
    split at h
    ·rename_i x hx
     split at h
     ·rename_i hc
      split at h
      ·cases h
      ·rename_i q hq
       cases h
       have hF:May R W X x.accF:=by
        intro k a ha;refine hm.right k a (List.mem_flatMap.2 ⟨o,by simp[V.mention],?_⟩);simp only[qF7,ho,Option.elim_some,if_pos hc.1,hx];simp only[V.accFL,List.append_nil];exact ha
       have hz:=qAt hq hF;refine⟨hz.env,fun k hk=>?_,fun k hk hb=>?_,fun p hp=>?_⟩
       ·rw[hz.w k hk]
        have e:k≠o:=fun e=>hk (e ▸ hW)
        simp only[qT e]
       ·have e:k≠o:=fun e=>hb (o,ob) (by simp) e.symm
        have:=hz.x k hk
        simp only[qT e] at this;exact this
       ·simp only[List.mem_singleton] at hp
        subst hp;exact⟨hW,.inr (by simp only[ho];exact Alk.refl _)⟩
     ·cases h
    ·cases h
  ·cases h
theorem zIg (hA:Ag R s σ) {m:Md} {v:V} {a:V×St×List (Nat×Ob)} (h:qU s m v=some a) (hm:May R W X (zE9 s m v)):∃σ',qU σ m v=some (a.1,σ',a.2.2)/\Ag R a.2.1 σ':=by
 cases m with
 | snap =>
  simp only[qU] at h ⊢;split at h
  ·cases h
  ·rename_i ht
   rw[if_neg ht];simp only[Option.some.injEq] at h ⊢;subst h;exact⟨σ,rfl,hA⟩
 | take =>
  simp only[qU] at h ⊢;split at h
  ·cases h
  ·rename_i q hq
   split at h
   ·rename_i hk
    cases h;obtain⟨σ',h1,h2⟩:=zTl hA hq hm;rw[h1];simp only[if_pos hk];exact⟨σ',rfl,h2⟩
   ·cases h
 | io =>
  simp only[qU] at h ⊢;simp only[zE9] at hm;split at h
  ·rename_i o lo n
   have hR:R o:=(hm.left o .w (mem_accAll.2 ⟨by simp[V.mention],rfl⟩)).1;rw[hA o hR];split at h
   ·cases h
   ·rename_i ob ho
    split at h
    ·rename_i hc
     cases h;simp only[if_pos hc];exact⟨_,rfl,hA.del o⟩
    ·cases h
  ·rename_i o i fs
   have hR:R o:=(hm.left o .w (mem_accAll.2 ⟨by simp[V.mention],rfl⟩)).1;rw[hA o hR];cases ho:zO s.obs o with
   | none=>rw[ho] at h;cases h
   | some ob =>
    rw[ho] at h;simp only at h ⊢;split at h
    ·rename_i x hx
     split at h
     ·rename_i hc
      split at h
      ·cases h
      ·rename_i q hq
       cases h
       have hF:May R W X x.accF:=by
        intro k a ha;refine hm.right k a (List.mem_flatMap.2 ⟨o,by simp[V.mention],?_⟩);simp only[qF7,ho,Option.elim_some,if_pos hc.1,hx];simp only[V.accFL,List.append_nil];exact ha
       obtain⟨σ',k1,k2⟩:=qAs (hA.del o) hq hF;simp only[if_pos hc,k1];exact⟨σ',rfl,k2⟩
     ·cases h
    ·cases h
  ·cases h
theorem zQd:∀{vs:List V} {ms:List Md} {s:St} {r:List V×St×List (Nat×Ob)},jW ms vs s=some r->May R W X (vD ms vs s)->LMv W X s r.2.1 r.2.2
 | [],ms,s,r,h,m=>by simp only[jW,Option.some.injEq] at h;subst h;exact(Mv.refl W X s).lmv
 | v::q,ms,s,r,h,m=>by
  simp only[jW] at h;simp only[vD] at m;split at h
  ·cases h
  ·rename_i a ha
   split at h
   ·cases h
   ·rename_i b hb
    cases h;rw[ha] at m;have h1:=zT6 ha m.left;have h2:=zQd hb m.right;refine⟨h2.env.trans h1.env,fun o ho=>(h2.w o ho).trans (h1.w o ho),fun o ho hn=>?_,fun p hp=>?_⟩
    ·exact(h1.x o ho (fun p hp=>hn p (List.mem_append_left _ hp))).trans (h2.x o ho (fun p hp=>hn p (List.mem_append_right _ hp)))
    ·rcases List.mem_append.1 hp with hp|hp
     ·exact h1.b p hp
     ·obtain⟨k1,k2⟩:=h2.b p hp
      refine⟨k1,?_⟩;rcases k2 with k2|k2
      ·exact .inl k2
      ·by_cases hX:X p.1
       ·exact .inl hX
       ·right
        by_cases hq:∃p'∈a.2.2,p'.1=p.1
        ·obtain⟨p',hp',e⟩:=hq
         have hg:zO a.2.1.obs p.1=none\/Alk (zO s.obs p.1) (zO a.2.1.obs p.1):=by
          rw[<-e];exact lent_gone ha hp'
         rcases hg with hg|hg
         ·rw[hg] at k2;exact k2.elim
         ·exact hg.trans k2
        ·exact(h1.x p.1 hX (fun p' hp' e=>hq ⟨p',hp',e⟩)).trans k2
where
 lent_gone {s:St} {m:Md} {v:V} {a:V×St×List (Nat×Ob)} {p:Nat×Ob} (h:qU s m v=some a) (hp:p∈a.2.2):zO a.2.1.obs p.1=none\/Alk (zO s.obs p.1) (zO a.2.1.obs p.1):=by
  have none_fzI:∀{v:V} {s:St} {r:V×St} {o:Nat},v.fzI s=some r->zO s.obs o=none->zO r.2.obs o=none:=by
   intro v s r o hv ho;exact zIc hv ho
  cases m with
  | snap =>
   simp only[qU] at h;split at h
   ·cases h
   ·simp only[Option.some.injEq] at h;subst h;cases hp
  | take =>
   simp only[qU] at h;split at h
   ·cases h
   ·split at h
    ·cases h;cases hp
    ·cases h
  | io =>
   simp only[qU] at h;split at h
   ·split at h
    ·cases h
    ·split at h
     ·cases h
      simp only[List.mem_singleton] at hp;subst hp;exact .inl qS
     ·cases h
   ·split at h
    ·cases h
    ·split at h
     ·split at h
      ·split at h
       ·cases h
       ·rename_i q hq
        cases h;simp only[List.mem_singleton] at hp;subst hp;exact .inl (none_fzI hq qS)
      ·cases h
     ·cases h
   ·cases h
theorem zR0:∀{vs:List V} {ms:List Md} {s σ:St} {r:List V×St×List (Nat×Ob)},Ag R s σ->jW ms vs s=some r->May R W X (vD ms vs s)->∃σ',jW ms vs σ=some (r.1,σ',r.2.2)/\Ag R r.2.1 σ'
 | [],ms,s,σ,r,hA,h,m=>by simp only[jW,Option.some.injEq] at h ⊢;subst h;exact⟨σ,rfl,hA⟩
 | v::q,ms,s,σ,r,hA,h,m=>by
  simp only[jW] at h ⊢;simp only[vD] at m;split at h
  ·cases h
  ·rename_i a ha
   split at h
   ·cases h
   ·rename_i b hb
    cases h;rw[ha] at m;obtain⟨σ1,h1,h2⟩:=zIg hA ha m.left;obtain⟨σ2,h3,h4⟩:=zR0 h2 hb m.right;rw[h1];simp only[h3];exact⟨σ2,rfl,h4⟩
theorem zP7:∀{vs:List V} {ms:List Md} {s:St} {r:List V×St×List (Nat×Ob)},jW ms vs s=some r->r.1.length=vs.length/\∀(i:Nat) v w,r.1[i]? = some v->vs[i]? = some w->ms.getD i .snap = .snap->v=w
 | [],ms,s,r,h=>by simp only[jW,Option.some.injEq] at h;subst h;exact⟨rfl,fun i v w e=>by simp at e⟩
 | v::q,ms,s,r,h=>by
  simp only[jW] at h;split at h
  ·cases h
  ·rename_i a ha
   split at h
   ·cases h
   ·rename_i b hb
    cases h;obtain⟨h1,h2⟩:=zP7 hb;refine⟨by simp[h1],fun i x y e1 e2 hm=>?_⟩;cases i with
    | zero =>
     simp only[List.getElem?_cons_zero,Option.some.injEq] at e1 e2;subst e1;subst e2;have hm':ms.headD .snap = .snap:=by cases ms<;>first|rfl|exact hm
     exact zM0 ha hm'
    | succ i =>
     refine h2 i x y e1 e2 ?_;cases ms with
     | nil=>simp
     | cons c d=>simpa using hm
theorem zT3 {o:Nat} {ob:Ob} {v:V} (h:xF o ob v s=some s'):∃ob',s'={ s with obs:=xC s.obs o ob' }/\Alk (some ob) (some ob'):=by
 unfold xF at h;split at h
 ·split at h
  ·rename_i ha
   cases h;exact⟨_,rfl,rfl,rfl,ha⟩
  ·cases h
 ·split at h
  ·split at h
   ·rename_i ha
    cases h;exact⟨_,rfl,rfl,rfl,ha⟩
   ·cases h
  ·cases h
theorem zRa:∀{bs:List (Nat×Ob)} {vs:List V} {s s':St},vV bs vs s=some s'->(∀p∈bs,W p.1)->s'.env=s.env/\(∀o,¬W o->zO s'.obs o=zO s.obs o)/\(∀o,(∀p∈bs,p.1≠o)->zO s'.obs o=zO s.obs o)/\∀o,(∃p∈bs,p.1=o)->∃p∈bs,p.1=o/\Alk (some p.2) (zO s'.obs o)
 | [],vs,s,s',h,hw=>by
  simp only[vV,Option.some.injEq] at h;subst h;exact⟨rfl,fun _ _=>rfl,fun _ _=>rfl,fun o ⟨p,hp,_⟩=>by cases hp⟩
 | p::r,vs,s,s',h,hw=>by
  simp only[vV] at h;split at h
  ·cases h
  ·rename_i v q
   split at h
   ·cases h
   ·rename_i s1 h1
    obtain⟨ob',rfl,hal⟩:=zT3 h1;obtain⟨k1,k2,k3,k4⟩:=zRa h (fun p hp=>hw p (List.mem_cons_of_mem _ hp));refine⟨k1,fun o ho=>?_,fun o ho=>?_,fun o ho=>?_⟩
    ·rw[k2 o ho]
     have e:o≠p.1:=fun e=>ho (e ▸ hw p (List.mem_cons_self ..))
     simp only[zT e]
    ·rw[k3 o (fun q hq=>ho q (List.mem_cons_of_mem _ hq))]
     have e:o≠p.1:=fun e=>ho p (List.mem_cons_self ..) e.symm
     simp only[zT e]
    ·by_cases hr:∃q∈r,q.1=o
     ·obtain⟨q',hq,e,ha⟩:=k4 o hr
      exact⟨q',List.mem_cons_of_mem _ hq,e,ha⟩
     ·obtain⟨q',hq,e⟩:=ho
      rcases List.mem_cons.1 hq with rfl|hq
      ·subst e
       refine⟨q',List.mem_cons_self ..,rfl,?_⟩;rw[k3 q'.1 (fun q hq e=>hr ⟨q,hq,e⟩)];simp only[qG];exact hal
      ·exact absurd ⟨q',hq,e⟩ hr
theorem zT0 (hA:Ag R s σ) {o:Nat} {ob:Ob} {v:V} (h:xF o ob v s=some s'):∃σ',xF o ob v σ=some σ'/\Ag R s' σ':=by
 unfold xF at h ⊢;split at h
 ·rename_i hb
  rw[if_pos hb];split at h
  ·rename_i ha
   cases h;rw[if_pos ha];exact⟨_,rfl,hA.put o _⟩
  ·cases h
 ·rename_i hb
  rw[if_neg hb];split at h
  ·split at h
   ·rename_i ha
    cases h;simp only[if_pos ha];exact⟨_,rfl,hA.put o _⟩
   ·cases h
  ·cases h
theorem zQj:∀{bs:List (Nat×Ob)} {vs:List V} {s σ s':St},Ag R s σ->vV bs vs s=some s'->∃σ',vV bs vs σ=some σ'/\Ag R s' σ'
 | [],vs,s,σ,s',hA,h=>by simp only[vV,Option.some.injEq] at h ⊢;subst h;exact⟨σ,rfl,hA⟩
 | p::r,vs,s,σ,s',hA,h=>by
  simp only[vV] at h ⊢;split at h
  ·cases h
  ·rename_i v q
   split at h
   ·cases h
   ·rename_i s1 h1
    obtain⟨σ1,k1,k2⟩:=zT0 hA h1;simp only[k1];exact zQj k2 h
mutual
theorem zL2:∀{v:V} {id o:Nat},(zO (v.thaw id).2.1 o).isSome=true->o∈(v.thaw id).1.mention
 | .lst own sz xs,id,o,h=>by
  cases own
  ·simp[V.thaw,zO] at h
  ·simp only[V.thaw,zO] at h ⊢
   split at h
   ·rename_i e;subst e;simp[V.mention]
   ·cases h
 | .agg xs,id,o,h=>by simp only[V.thaw,V.mention] at h ⊢;exact zEn h
 | .tup xs,id,o,h=>by simp only[V.thaw,V.mention] at h ⊢;exact zEn h
 | .int ..,id,o,h=>by simp[V.thaw,zO] at h
 | .bool _,id,o,h=>by simp[V.thaw,zO] at h
 | .str _,id,o,h=>by simp[V.thaw,zO] at h
 | .emp _,id,o,h=>by simp[V.thaw,zO] at h
 | .ref ..,id,o,h=>by simp[V.thaw,zO] at h
 | .plc ..,id,o,h=>by simp[V.thaw,zO] at h
 | .ptr ..,id,o,h=>by simp[V.thaw,zO] at h
 | .vptr _,id,o,h=>by simp[V.thaw,zO] at h
 | .clo ..,id,o,h=>by simp[V.thaw,zO] at h
 | .und,id,o,h=>by simp[V.thaw,zO] at h
 | .iol ..,id,o,h=>by simp[V.thaw,zO] at h
 | .iop _,id,o,h=>by simp[V.thaw,zO] at h
theorem zEn:∀{xs:List V} {id o:Nat},(zO (V.thawL id xs).2.1 o).isSome=true->o∈V.mentionL (V.thawL id xs).1
 | [],id,o,h=>by simp[V.thawL,zO] at h
 | x::r,id,o,h=>by
  simp only[V.thawL,kV] at h;simp only[V.thawL,V.mentionL,List.mem_append];cases ha:zO (x.thaw id).2.1 o with
  | some y=>exact .inl (zL2 (by rw[ha];rfl))
  | none =>
   rw[ha] at h;simp only[Option.none_or] at h;exact .inr (zEn h)
end
theorem qCk (hA:Ag R s σ) {o:Nat} (h:R o):qF7 σ.obs o=qF7 s.obs o:=by unfold qF7;rw[hA o h]
theorem zWh (hA:Ag R s σ) {m:Md} {v:V} (h:May R W X (zE9 s m v)):May R W X (zE9 σ m v):=by
 cases m with
 | snap=>exact h
 | take=>exact h
 | io =>
  simp only[zE9] at h ⊢;intro o a ha;rcases List.mem_append.1 ha with ha|ha
  ·exact h o a (List.mem_append_left _ ha)
  ·obtain⟨q,hq,ha⟩:=List.mem_flatMap.1 ha
   have hR:R q:=(h.left q .w (mem_accAll.2 ⟨hq,rfl⟩)).1;rw[qCk hA hR] at ha;exact h o a (List.mem_append_right _ (List.mem_flatMap.2 ⟨q,hq,ha⟩))
theorem May.append {A B:List (Nat×Acc)} (h:May R W X A) (k:May R W X B):May R W X (A++B):=fun o a ha=>by
 rcases List.mem_append.1 ha with ha|ha
 ·exact h o a ha
 ·exact k o a ha
theorem zIh:∀{vs:List V} {ms:List Md} {s σ:St} {r:List V×St×List (Nat×Ob)},Ag R s σ->jW ms vs s=some r->May R W X (vD ms vs s)->May R W X (vD ms vs σ)
 | [],ms,s,σ,r,hA,h,m=>m
 | v::q,ms,s,σ,r,hA,h,m=>by
  simp only[jW] at h;simp only[vD] at m ⊢;split at h
  ·cases h
  ·rename_i a ha
   split at h
   ·cases h
   ·rename_i b hb
    cases h;rw[ha] at m;obtain⟨σ1,h1,h2⟩:=zIg hA ha m.left;rw[h1];exact(zWh hA m.left).append (zIh h2 hb m.right)
theorem zQz {call:Call} {cfg:Cfg} {id:Nat} {f:FuncId} {vs:List V} {v:V} {s':St} (h:xM call cfg s id f vs=some (v,s')) (m:May R W X (zA9 .x v.mention++vD (cfg.md f) vs s)):Mv W X s s':=by
 unfold xM at h;split at h
 ·cases h
 ·rename_i a ha
  split at h
  ·cases h
  ·rename_i asv has
   split at h
   ·cases h
   ·rename_i r hr
    split at h
    ·split at h
     ·cases h
     ·rename_i s2 hb
      cases h;have m1:=m.left;have L:=zQd ha m.right;obtain⟨k1,k2,k3,k4⟩:=zRa (W:=W) hb (fun p hp=>(L.b p hp).1);have hk:∀o,(zO (r.1.thaw id).2.1 o).isSome=true->W o/\X o:=fun o ho=>(m1 o .x (mem_accAll.2 ⟨zL2 ho,rfl⟩)).2
      have hg:∀o,(¬W o\/¬X o)->zO ((r.1.thaw id).2.1++s2.obs) o=zO s2.obs o:=by
       intro o ho;rw[kV];cases hx:zO (r.1.thaw id).2.1 o with
       | none=>rfl
       | some y =>
        have:=hk o (by rw[hx];rfl)
        rcases ho with ho|ho
        ·exact absurd this.1 ho
        ·exact absurd this.2 ho
      refine⟨k1.trans L.env,fun o ho=>?_,fun o ho=>?_⟩
      ·exact(hg o (.inl ho)).trans ((k2 o ho).trans (L.w o ho))
      ·have hgo:zO ((r.1.thaw id).2.1++s2.obs) o=zO s2.obs o:=hg o (.inr ho)
       show Alk (zO s.obs o) (zO ((r.1.thaw id).2.1++s2.obs) o);rw[hgo]
       by_cases hl:∃p∈a.2.2,p.1=o
       ·obtain⟨p,hp,e,hal⟩:=k4 o hl
        subst e;exact((L.b p hp).2.resolve_left ho).trans hal
       ·rw[k3 o (fun p hp e=>hl ⟨p,hp,e⟩)]
        exact L.x o ho (fun p hp e=>hl ⟨p,hp,e⟩)
    ·cases h
theorem zY7 (hA:Ag R s σ) {call:Call} {cfg:Cfg} {id:Nat} {f:FuncId} {vs:List V} {v:V} {s':St} (h:xM call cfg s id f vs=some (v,s')) (m:May R W X (zA9 .x v.mention++zEe (cfg.md f) vs s)):∃σ',xM call cfg σ id f vs=some (v,σ')/\Ag R s' σ'/\Mv W X σ σ':=by
 suffices hs:∃σ',xM call cfg σ id f vs=some (v,σ')/\Ag R s' σ' by
  obtain⟨σ',h1,h2⟩:=hs;refine⟨σ',h1,h2,zQz (R:=R) h1 ?_⟩;have m2:=m.right;unfold zEe at m2
  obtain⟨r,hr⟩:∃r,jW (cfg.md f) vs s=some r:=by
   unfold xM at h;split at h
   ·cases h
   ·rename_i a ha;exact⟨a,ha⟩
  exact m.left.append (zIh hA hr m2.left)
 unfold xM at h ⊢;split at h
 ·cases h
 ·rename_i a ha
  have m2:=m.right;unfold zEe at m2;obtain⟨σ1,h1,h2⟩:=zR0 hA ha m2.left;rw[h1];simp only;have m3:=m2.right;rw[ha] at m3;simp only at m3;obtain⟨hl,hs⟩:=zP7 ha;split at h
  ·cases h
  ·rename_i asv has
   rw[zE5 h2 has (ws:=vs) (fun _ _=>trivial) hs hl m3];simp only;split at h
   ·cases h
   ·rename_i r hr
    split at h
    ·rename_i hc
     split at h
     ·cases h
     ·rename_i s2 hb
      cases h;obtain⟨σ2,h3,h4⟩:=zQj h2 hb;simp only[hr,if_pos hc,h3];refine⟨_,rfl,fun o ho=>?_⟩;simp only[kV];rw[h4 o ho]
    ·cases h
end
end Go.Proofs.YtbcgenkegnmkhaaGreat.Ev
namespace Go.Proofs.YtbcgenkegnmkhaaGreat.Ev
open Go
set_option linter.unusedSectionVars false
set_option linter.unusedSimpArgs false
section
variable {R W X : Nat->Prop} {s s' σ : St}
theorem zMt {z v:V} {o i:Nat} {fs:List Nat} (h:xJ s z (.ptr o i fs) v=some s') (hW:W o) (m:May R W X v.accF):Mv W X s s':=by
 simp only[xJ] at h;split at h
 ·cases h
 ·rename_i ob ho
  split at h
  ·cases h
  ·rename_i old hg
   split at h
   ·rename_i hal
    split at h
    ·split at h
     ·cases h
     ·obtain⟨ob',hs,e⟩:=zE h
      cases e;exact zCg hW (.inr (by rw[ho];exact zHl hg hal.1 hs))
    ·split at h
     ·cases h
     ·rename_i r hr
      split at h
      ·cases h
      ·rename_i ob2 ho2
       split at h
       ·cases h
       ·rename_i old2 hg2
        split at h
        ·rename_i hal2
         obtain⟨ob',hs,e⟩:=zE h;cases e;exact(zV5 hr m).trans (zCg hW (.inr (by rw[ho2];exact zHl hg2 hal2 hs)))
        ·cases h
   ·cases h
theorem zWj (hA:Ag R s σ) {z v:V} {o i:Nat} {fs:List Nat} (h:xJ s z (.ptr o i fs) v=some s') (hR:R o) (m:May R W X v.accF):∃σ',xJ σ z (.ptr o i fs) v=some σ'/\Ag R s' σ':=by
 simp only[xJ] at h ⊢;rw[hA o hR];cases ho:zO s.obs o with
 | none=>rw[ho] at h;cases h
 | some ob =>
  rw[ho] at h;simp only at h ⊢;cases hg:ob.get i fs with
  | none=>rw[hg] at h;cases h
  | some old =>
   rw[hg] at h;simp only at h ⊢;split at h
   ·rename_i hal
    rw[if_pos hal];split at h
    ·rename_i hb
     rw[if_pos hb];split at h
     ·cases h
     ·rename_i ht
      rw[if_neg ht];obtain⟨ob',hs,e⟩:=zE h;cases e;rw[hs];exact⟨_,rfl,hA.put o _⟩
    ·rename_i hb
     rw[if_neg hb];split at h
     ·cases h
     ·rename_i r hr
      obtain⟨σ1,k1,k2⟩:=zTl hA hr m;rw[k1];simp only;rw[k2 o hR];split at h
      ·cases h
      ·rename_i ob2 ho2
       split at h
       ·cases h
       ·rename_i old2 hg2
        split at h
        ·rename_i hal2
         obtain⟨ob',hs,e⟩:=zE h;cases e;simp only[hg2,if_pos hal2,hs,zJ];exact⟨_,rfl,k2.put o _⟩
        ·cases h
   ·cases h
theorem zXw (hA:Ag R s σ) {z x v:V} (h:zCz s z x=some v) (m:∀o∈x.mention,R o):zCz σ z x=some v:=by
 unfold zCz at h ⊢;split at h
 ·exact h
 ·rename_i o i fs
  rw[hA o (m o (by simp[V.mention]))];exact h
 ·cases h
theorem qDu {ob ob':Ob} (h:Alk (some ob) (some ob')) {i:Nat} {fs:List Nat} {x:V} (hg:ob.get i fs=some x):∃x',ob'.get i fs=some x'/\x.alike x'=true:=by
 unfold Ob.get at hg ⊢;cases hx:ob.xs[i]? with
 | none=>rw[hx] at hg;cases hg
 | some y =>
  rw[hx] at hg;simp only at hg;obtain⟨y',h1,h2,_⟩:=vU (xQ h.2.2) hx;rw[h1];obtain⟨x',k1,_,k3⟩:=zDd h2 hg;exact⟨x',k1,zEl k3⟩
theorem zSo {xs ys:List V} (h:V.alikeL xs ys=true):∀i,zC9 xs i=zC9 ys i:=by
 intro i
 induction xs generalizing ys i with
 | nil=>simp only[V.alikeL,List.isEmpty_iff] at h;subst h;rfl
 | cons x r ih =>
  cases ys with
  | nil=>simp[V.alikeL] at h
  | cons y q =>
   simp only[V.alikeL,Bool.and_eq_true] at h;cases i with
   | zero=>rfl
   | succ i=>simp only[zC9];rw[qK h.1,ih h.2]
theorem zIq:∀{xs ys:List V},V.alikeL xs ys=true->xs.length=ys.length
 | [],ys,h=>by simp only[V.alikeL,List.isEmpty_iff] at h;subst h;rfl
 | x::r,[],h=>by simp[V.alikeL] at h
 | x::r,y::q,h=>by
  simp only[V.alikeL,Bool.and_eq_true] at h;simp[zIq h.2]
theorem zJo {cfg:Cfg} {t:TypeId} {x y:V} {i:Nat} (h:x.alike y=true) (hf:jX cfg t x i=true):jX cfg t y i=true:=by
 unfold jX at hf;split at hf
 ·rename_i fs xs hfs
  cases y with
  | agg ys =>
   simp only[V.alike,V.aggOf] at h;unfold jX;rw[hfs];simp only[Bool.and_eq_true,decide_eq_true_eq] at hf ⊢;refine⟨hf.1.trans (zIq h),?_⟩;have hf2:=hf.2;split at hf2
   ·rename_i f x0 e1 e2
    obtain⟨y0,k1,k2,k3⟩:=vU (xQ h) e2;rw[e1,k1];simp only;split at hf2
    ·rename_i z hz
     simp only[Bool.and_eq_true,decide_eq_true_eq] at hf2 ⊢;exact⟨hf2.1.trans (zSo h i),zHe hf2.2 (zEl k2)⟩
    ·cases hf2
   ·cases hf2
  | _=>simp[V.alike,V.aggOf] at h
 ·cases hf
theorem zK5 {a b:Option Ob} {x:Ob} (h:Alk a b) (e:a=some x):∃y,b=some y/\Alk (some x) (some y):=by
 subst e;cases b with
 | none=>exact h.elim
 | some y=>exact⟨y,rfl,h⟩
theorem zMc {cfg:Cfg} {t:TypeId} {i:Nat} {x v:V} (h:yL cfg s t i x=some v) (hM:∀o∈x.mention,Alk (zO s.obs o) (zO σ.obs o)):yL cfg σ t i x=some v:=by
 unfold yL at h ⊢;split at h
 ·exact h
 ·rename_i o k fs
  split at h
  ·cases h
  ·rename_i ob ho
   obtain⟨ob',ho',hal⟩:=zK5 (hM o (by simp[V.mention])) ho;rw[ho'];simp only;split at h
   ·cases h
   ·rename_i y hy
    obtain⟨y',h1,h2⟩:=qDu hal hy;rw[h1];simp only;split at h
    ·rename_i hf
     rw[if_pos (zJo h2 hf)];exact h
    ·cases h
 ·cases h
theorem zSy {sz o lo n i:Nat} {v:V} (h:zD6 s sz o lo n i=some v) (hM:Alk (zO s.obs o) (zO σ.obs o)):zD6 σ sz o lo n i=some v:=by
 unfold zD6 at h ⊢;split at h
 ·rename_i hi
  rw[if_pos hi];split at h
  ·cases h
  ·rename_i ob ho
   obtain⟨ob',ho',hal⟩:=zK5 hM ho;rw[ho'];simp only;split at h
   ·cases h
   ·rename_i y hy
    obtain⟨y',h1,h2,_⟩:=vU (xQ hal.2.2) hy;rw[h1];simp only;split at h
    ·rename_i hc
     rw[if_pos ⟨hal.1.symm.trans hc.1,(qK h2).trans hc.2⟩];exact h
    ·cases h
 ·cases h
theorem zMa {cfg:Cfg} {t:TypeId} {i:Int} {x v:V} (h:yP cfg s t x i=some v) (hM:∀o∈x.mention,Alk (zO s.obs o) (zO σ.obs o)):yP cfg σ t x i=some v:=by
 unfold yP at h ⊢;split at h
 ·cases h
 ·rename_i z hz
  split at h
  ·rename_i h0
   simp only[if_pos h0];split at h
   ·exact h
   ·rename_i o lo n
    exact zSy h (hM o (by simp[V.mention]))
   ·cases h
  ·cases h
theorem qEz {k:Nat} {x v:V} {a b:Int} (h:zL0 s k x a b=some v) (hM:∀o∈x.mention,Alk (zO s.obs o) (zO σ.obs o)):zL0 σ k x a b=some v:=by
 unfold zL0 at h ⊢;split at h
 ·exact h
 ·exact h
 ·exact h
 ·exact h
 ·rename_i o l n
  split at h
  ·rename_i h1
   rw[if_pos h1];exact h
  ·rename_i h1
   rw[if_neg h1];split at h
   ·rename_i h2
    rw[if_pos h2];exact h
   ·rename_i h2
    rw[if_neg h2];split at h
    ·cases h
    ·rename_i ob ho
     obtain⟨ob',ho',hal⟩:=zK5 (hM o (by simp[V.mention])) ho;rw[ho'];simp only;rw[<-hal.2.1];exact h
 ·cases h
theorem zV3 {cfg:Cfg} {t:TypeId} {x v:V} {lo hi:Option V} (h:zF6 cfg s t x lo hi=some v) (hM:∀o∈x.mention,Alk (zO s.obs o) (zO σ.obs o)):zF6 cfg σ t x lo hi=some v:=by
 unfold zF6 at h ⊢;split at h
 ·cases h
 ·split at h
  ·cases h
  ·split at h
   ·cases h
   ·split at h
    ·cases h
    ·split at h
     ·rename_i hc
      simp only[if_pos hc];exact qEz h hM
     ·cases h
theorem jE {e e':List (Nat×V)} {x:Operand} (h:∀t∈kG [x],zO e' t=zO e t):opV e' x=opV e x:=by
 unfold opV;cases x with
 | tmp t=>simp only;rw[h t (by simp[kG])]
 | _=>rfl
theorem qR {x:Operand} {r:List Operand}:kG (x::r)=kG [x]++kG r:=by
 cases x<;>simp[kG]
theorem zKd {e e':List (Nat×V)}:∀{xs:List Operand},(∀t∈kG xs,zO e' t=zO e t)->kW e' xs=kW e xs
 | [],h=>rfl
 | x::r,h=>by
  rw[qR] at h;simp only[kW];rw[jE (fun t ht=>h t (List.mem_append_left _ ht)),zKd (fun t ht=>h t (List.mem_append_right _ ht))]
theorem zEj {e e':List (Nat×V)}:∀{ps:List (Nat×Operand)},(∀t∈kG (ps.map (·.2)),zO e' t=zO e t)->xE e' ps=xE e ps
 | [],h=>rfl
 | (i,x)::r,h=>by
  simp only[List.map_cons] at h;rw[qR] at h;simp only[xE];rw[jE (fun t ht=>h t (List.mem_append_left _ ht)),zEj (fun t ht=>h t (List.mem_append_right _ ht))]
theorem zQ8 {e e':List (Nat×V)} {x:Option Operand} (h:∀t∈kG x.toList,zO e' t=zO e t):zKk e' x=zKk e x:=by
 cases x with
 | none=>rfl
 | some x=>simp only[zKk];rw[jE h]
theorem zX7 {cfg:Cfg} {ty:TypeId} {e e':List (Nat×V)} {x:Operand} (h:∀t∈kG [x],zO e' t=zO e t):opT cfg e' ty x=opT cfg e ty x:=by
 unfold opT;split
 ·rfl
 ·rfl
 ·exact jE h
theorem zPc {e:List (Nat×V)}:∀{xs:List Operand} {vs:List V},kW e xs=some vs->∀(x:Operand) (v:V),x∈xs->opV e x=some v->v∈vs
 | [],vs,h,x,v,hx,hv=>by cases hx
 | y::r,vs,h,x,v,hx,hv=>by
  simp only[kW] at h;split at h
  ·cases h
  ·rename_i a ha
   obtain⟨l,hl,e⟩:=zE h;subst e;rcases List.mem_cons.1 hx with rfl|hx
   ·rw[hv] at ha;cases ha;exact List.mem_cons_self ..
   ·exact List.mem_cons_of_mem _ (zPc hl x v hx hv)
mutual
theorem zZ3:∀{v:V} {o:Nat},o∈v.mention->(o,Acc.m)∈v.accM\/(o,Acc.r)∈v.accM
 | .agg xs,o,h=>by simp only[V.mention,V.accM] at h ⊢;exact zBn h
 | .tup xs,o,h=>by simp only[V.mention,V.accM] at h ⊢;exact zBn h
 | .clo f cs,o,h=>by simp only[V.mention,V.accM] at h ⊢;exact zBn h
 | .ref k lo n,o,h=>by simp only[V.mention,List.mem_singleton] at h;subst h;simp[V.accM]
 | .plc k i fs ver n,o,h=>by simp only[V.mention,List.mem_singleton] at h;subst h;simp[V.accM]
 | .ptr k i fs,o,h=>by simp only[V.mention,List.mem_singleton] at h;subst h;simp[V.accM]
 | .int ..,o,h=>by cases h
 | .bool _,o,h=>by cases h
 | .str _,o,h=>by cases h
 | .lst ..,o,h=>by cases h
 | .emp _,o,h=>by cases h
 | .vptr _,o,h=>by cases h
 | .und,o,h=>by cases h
 | .iol ..,o,h=>by cases h
 | .iop _,o,h=>by cases h
theorem zBn:∀{xs:List V} {o:Nat},o∈V.mentionL xs->(o,Acc.m)∈V.accML xs\/(o,Acc.r)∈V.accML xs
 | [],o,h=>by cases h
 | x::r,o,h=>by
  simp only[V.mentionL,V.accML,List.mem_append] at h ⊢;rcases h with h|h
  ·rcases zZ3 h with h|h
   ·exact .inl (.inl h)
   ·exact .inr (.inl h)
  ·rcases zBn h with h|h
   ·exact .inl (.inr h)
   ·exact .inr (.inr h)
end
theorem zJx {xs:List V} {v:V} {o:Nat} (hv:v∈xs) (h:o∈v.mention):(o,Acc.m)∈V.accML xs\/(o,Acc.r)∈V.accML xs :=
 zBn (mem_mentionL.2 ⟨v,hv,h⟩)
structure Local (R W X:Nat->Prop) (call:Call) (cfg:Cfg) (id base:Nat) (s:St) (ty:TypeId) (op:Op) (v:V) (s':St):Prop where
 mv:Mv W X s s'
 ag:∀σ,Ag R s σ->(∀t∈kG op.operands.toList,zO σ.env t=zO s.env t)->(∀o,(o,Acc.m)∈zC7 cfg id base s v op->Alk (zO s.obs o) (zO σ.obs o)) ->
  ∃σ',opE call cfg id base σ ty op=some (v,σ')/\Ag R s' σ'/\Mv W X σ σ'
theorem qP {call:Call} {cfg:Cfg} {id base:Nat} {ty:TypeId} {op:Op} {v:V}
  (h:∀σ,Ag R s σ->(∀t∈kG op.operands.toList,zO σ.env t=zO s.env t)->(∀o,(o,Acc.m)∈zC7 cfg id base s v op->Alk (zO s.obs o) (zO σ.obs o))->opE call cfg id base σ ty op=some (v,σ)):Local R W X call cfg id base s ty op v s :=
 ⟨Mv.refl ..,fun σ hA he hM=>⟨σ,h σ hA he hM,hA,Mv.refl ..⟩⟩
theorem zB3 {id:Nat} {ob:Ob} (hW:W id) (hX:X id):Mv W X s (s.new id ob):=zCg hW (.inl hX)
theorem zI5 (hA:Ag R s σ) {id:Nat} {ob:Ob}:Ag R (s.new id ob) (σ.new id ob):=hA.put id ob
theorem zM4 {call:Call} {cfg:Cfg} {id base:Nat} {ty:TypeId} {op:Op} {v:V} (hI:∀f vs s id,call.i f vs s id=none) (h:opE call cfg id base s ty op=some (v,s')) (m:May R W X (zC7 cfg id base s v op)):Local R W X call cfg id base s ty op v s':=by
 unfold opE at h;split at h
 case h_1 x =>
  obtain⟨v1,h1,e⟩:=zE h;cases e;refine qP fun σ hA he hM=>?_
  simp only[opE,zX7 (e:=s.env) he,h1,zJ]
 case h_2 x =>
  obtain⟨v1,h1,e⟩:=zE h;cases e;refine qP fun σ hA he hM=>?_
  simp only[opE,zX7 (e:=s.env) he,h1,zJ]
 case h_3 c x y =>
  split at h
  ·cases h
  rename_i vc h1
  split at h
  ·obtain⟨v1,h2,e⟩:=zE h;cases e
   refine qP fun σ hA he hM=>?_
   have he':∀t∈kG [c,x,y],zO σ.env t=zO s.env t:=he;have q1:=jE (x:=c) (fun t ht=>he' t (by rw[qR];exact List.mem_append_left _ ht));have q2:=jE (x:=x) (fun t ht=>he' t (by rw[qR,qR (x:=x)];exact List.mem_append_right _ (List.mem_append_left _ ht)));have q3:=jE (x:=y) (fun t ht=>he' t (by rw[qR,qR (x:=x)];exact List.mem_append_right _ (List.mem_append_right _ ht)));simp only[opE,q1,q2,q3,h1,h2,zJ]
  ·cases h
 case h_4 t =>
  obtain⟨z,h1,e⟩:=zE h;cases e;obtain⟨_,hW,hX⟩:=m id .x (by simp[zC7]);refine⟨zB3 hW hX,fun σ hA he hM=>⟨_,by simp only[opE,h1,zJ],zI5 hA,zB3 hW hX⟩⟩
 case h_5 t x =>
  split at h
  ·cases h
  rename_i vx h1
  split at h
  ·cases h
  rename_i z h2
  split at h
  ·rename_i hc;cases h
   obtain⟨_,hW,hX⟩:=m id .x (by simp[zC7]);refine⟨zB3 hW hX,fun σ hA he hM=>⟨_,?_,zI5 hA,zB3 hW hX⟩⟩;have q1:=jE (x:=x) (e:=s.env) he;simp only[opE,q1,h1,h2,if_pos hc]
  ·cases h
 case h_6 t ps =>
  split at h
  ·cases h
  rename_i z h1
  split at h
  ·split at h
   ·rename_i hfl
    split at h
    ·cases h
    rename_i l h2
    obtain⟨xs,h3,e⟩:=zE h;cases e;refine qP fun σ hA he hM=>?_
    have q1:=zEj (ps:=ps.toList) (e:=s.env) (by simpa [Op.operands] using he);simp only[opE,q1,h1,if_pos hfl,h2,h3,zJ]
   ·cases h
  ·cases h
 case h_7 t n ps =>
  split at h
  ·cases h
  rename_i z h1
  split at h
  ·cases h
  rename_i l h2
  split at h
  ·rename_i hc
   obtain⟨r,h3,e⟩:=zE h;cases e;obtain⟨_,hW,hX⟩:=m id .x (by simp[zC7]);have mF:May R W X (V.accFL (l.map (·.2))):=fun o a ha=>m o a (by simp only[zC7,h2,Option.elim_some];exact List.mem_cons_of_mem _ ha)
   refine⟨(zP9 h3 mF).trans (zB3 hW hX),fun σ hA he hM=>?_⟩;have q1:=zEj (ps:=ps.toList) (e:=s.env) (by simpa [Op.operands] using he);obtain⟨σ1,k1,k2⟩:=zUk hA h3 mF;refine⟨_,by simp only[opE,q1,h1,h2,if_pos hc,k1,zJ],zI5 k2,(zP9 k1 mF).trans (zB3 hW hX)⟩
  ·cases h
 case h_8 t x =>
  split at h
  ·cases h
  rename_i z h1
  split at h
  ·cases h
  rename_i vx h2
  obtain⟨y,h3,e⟩:=zE h;cases e;refine qP fun σ hA he hM=>?_
  have q1:=jE (x:=x) (e:=s.env) he;have q2:=zXw hA h3 (fun o ho=>m o .r (by simp only[zC7,h2,Option.elim_some];exact mem_accAll.2 ⟨ho,rfl⟩));simp only[opE,q1,h1,h2,q2,zJ]
 case h_9 t x y =>
  split at h
  ·cases h
  rename_i z h1
  split at h
  ·cases h
  rename_i vx h2
  split at h
  ·cases h
  rename_i vy h3
  obtain⟨s1,h4,e⟩:=zE h;cases e
  have hp:∃o i fs,vx = .ptr o i fs:=by
   unfold xJ at h4;split at h4
   ·exact⟨_,_,_,rfl⟩
   ·cases h4
  obtain⟨o,i,fs,rfl⟩:=hp;simp only[zC7,h2,h3,Option.elim_some] at m;obtain⟨hR,hW⟩:=m.left o .w (mem_accAll.2 ⟨by simp[V.mention],rfl⟩);refine⟨zMt h4 hW m.right,fun σ hA he hM=>?_⟩;have he':∀t∈kG [x,y],zO σ.env t=zO s.env t:=he;have q1:=jE (x:=x) (fun t ht=>he' t (by rw[qR];exact List.mem_append_left _ ht));have q2:=jE (x:=y) (fun t ht=>he' t (by rw[qR];exact List.mem_append_right _ ht));obtain⟨σ1,k1,k2⟩:=zWj hA h4 hR m.right;exact⟨σ1,by simp only[opE,h1,q1,q2,h2,h3,k1,zJ],k2,zMt k1 hW m.right⟩
 case h_10 x =>
  split at h
  ·cases h
  rename_i vx h1
  have hs:s'=s:=by
   split at h
   ·cases h;rfl
   ·cases h;rfl
   ·cases h
  subst hs;refine qP fun σ hA he hM=>?_
  have q1:=jE (x:=x) (e:=s'.env) he;simp only[opE,q1,h1];split at h
  ·cases h;rfl
  ·cases h;rfl
  ·cases h
 case h_11 op t x y t2 =>
  split at h
  ·cases h
  rename_i vx h1
  have hs:s'=s:=by
   split at h
   ·obtain⟨_,_,e⟩:=zE h;cases e;rfl
   ·split at h
    ·cases h
    ·split at h
     ·obtain⟨_,_,e⟩:=zE h;cases e;rfl
     ·obtain⟨_,_,e⟩:=zE h;cases e;rfl
  subst hs;refine qP fun σ hA he hM=>?_
  have he':∀t∈kG [x,y],zO σ.env t=zO s'.env t:=he;have q1:=jE (x:=x) (fun t ht=>he' t (by rw[qR];exact List.mem_append_left _ ht));have q2:=jE (x:=y) (fun t ht=>he' t (by rw[qR];exact List.mem_append_right _ ht));simp only[opE,q1,q2,h1];split at h
  ·rename_i hn
   rw[if_pos hn];obtain⟨v1,k1,e⟩:=zE h;cases e;rw[k1];rfl
  ·rename_i hn
   rw[if_neg hn];split at h
   ·cases h
   rename_i vy h2
   try simp only[h2]
   split at h
   ·rename_i hc
    rw[if_pos hc];obtain⟨v1,k1,e⟩:=zE h;cases e;rw[k1];rfl
   ·rename_i hc
    rw[if_neg hc];obtain⟨v1,k1,e⟩:=zE h;cases e;rw[k1];rfl
 case h_12 ts t x =>
  split at h
  ·cases h
  rename_i k0 h0
  split at h
  ·cases h
  rename_i k h1
  split at h
  ·cases h
  rename_i vx h2
  split at h
  ·cases h
   refine qP fun σ hA he hM=>?_
   have q1:=jE (x:=x) (e:=s.env) he;simp only[opE,q1,h0,h1,h2]
  ·cases h
 case h_13 op t x =>
  split at h
  ·cases h
  rename_i vx h1
  obtain⟨v1,h2,e⟩:=zE h;cases e;refine qP fun σ hA he hM=>?_
  have q1:=jE (x:=x) (e:=s.env) he;simp only[opE,q1,h1,h2,zJ]
 case h_14 f first caps =>
  split at h
  ·rename_i hf
   split at h
   ·cases h
   rename_i cs h1
   split at h
   ·rename_i hk
    cases h;refine qP fun σ hA he hM=>?_
    have q1:=zKd (xs:=caps.toList) (e:=s.env) (fun t ht=>he t (by
     simp only[Op.operands,Array.toList_append,kG,List.filterMap_append]
     exact List.mem_append_right _ ht))
    simp only[opE,if_pos hf,q1,h1,if_pos hk]
   ·cases h
  ·cases h
 case h_15 t x y =>
  split at h
  ·cases h
  rename_i vx h1
  split at h
  ·cases h
  rename_i vy h2
  split at h
  ·cases h
  rename_i z h3
  split at h
  ·split at h
   ·rename_i hc
    cases h;obtain⟨_,hW,hX⟩:=m id .x (by simp[zC7]);refine⟨zB3 hW hX,fun σ hA he hM=>⟨_,?_,zI5 hA,zB3 hW hX⟩⟩;have he':∀t∈kG [x,y],zO σ.env t=zO s.env t:=he;have q1:=jE (x:=x) (fun t ht=>he' t (by rw[qR];exact List.mem_append_left _ ht));have q2:=jE (x:=y) (fun t ht=>he' t (by rw[qR];exact List.mem_append_right _ ht));simp only[opE,q1,q2,h1,h2,h3,if_pos hc]
   ·cases h
  ·cases h
 case h_16 t x lo hi =>
  split at h
  ·cases h
  rename_i vx h1
  split at h
  ·cases h
  rename_i vl h2
  split at h
  ·cases h
  rename_i vh h3
  obtain⟨v1,h4,e⟩:=zE h;cases e;refine qP fun σ hA he hM=>?_
  have he':∀t∈kG ([x]++lo.toList++hi.toList),zO σ.env t=zO s.env t:=by
   simpa [Op.operands] using he
  have happ:∀(a b:List Operand),kG (a++b)=kG a++kG b:=fun a b=>by simp[kG]
  rw[happ,happ] at he';have q1:=jE (x:=x) (fun t ht=>he' t (List.mem_append_left _ (List.mem_append_left _ ht)));have q2:=zQ8 (x:=lo) (fun t ht=>he' t (List.mem_append_left _ (List.mem_append_right _ ht)));have q3:=zQ8 (x:=hi) (fun t ht=>he' t (List.mem_append_right _ ht))
  have hall:∃vs,kW s.env ([x]++lo.toList++hi.toList)=some vs:=by
   cases lo with
   | none =>
    cases hi with
    | none=>exact⟨[vx],by simp only[Option.toList,List.append_nil,kW,h1,zJ]⟩
    | some y =>
     simp only[zKk] at h3;obtain⟨b,hb,_⟩:=zE h3;exact⟨[vx,b],by simp only[Option.toList,List.append_nil,List.cons_append,List.nil_append,kW,h1,hb,zJ]⟩
   | some y =>
    simp only[zKk] at h2;obtain⟨b,hb,_⟩:=zE h2;cases hi with
    | none=>exact⟨[vx,b],by simp only[Option.toList,List.append_nil,List.cons_append,List.nil_append,kW,h1,hb,zJ]⟩
    | some y' =>
     simp only[zKk] at h3;obtain⟨b',hb',_⟩:=zE h3;exact⟨[vx,b,b'],by simp only[Option.toList,List.cons_append,List.nil_append,kW,h1,hb,hb',zJ]⟩
  obtain⟨vs,hvs⟩:=hall;have hops:(Op.slice t x lo hi none).operands.toList=[x]++lo.toList++hi.toList:=by simp[Op.operands]
  have hmem:=zPc hvs x vx (by simp) h1
  have q4:=zV3 (σ:=σ) h4 (fun o ho=>by
   rcases zJx hmem ho with h|h
   ·exact hM o (by simp only[zC7,hops,hvs,Option.elim_some];exact h)
   ·have:=m o .r (by simp only[zC7,hops,hvs,Option.elim_some];exact h)
    rw[hA o this];exact Alk.refl _)
  simp only[opE,q1,q2,q3,h1,h2,h3,q4,zJ]
 case h_17 t x i =>
  split at h
  ·cases h
  rename_i vx h1
  obtain⟨v1,h2,e⟩:=zE h;cases e;refine qP fun σ hA he hM=>?_
  have q1:=jE (x:=x) (e:=s.env) he;have hvs:kW s.env (Op.fieldAddr t x i).operands.toList=some [vx]:=by simp only[Op.operands,kW,h1,zJ]
  have q4:=zMc (σ:=σ) h2 (fun o ho=>by
   rcases zJx (List.mem_singleton.2 (rfl:vx=vx)) ho with h|h
   ·exact hM o (by simp only[zC7,hvs,Option.elim_some];exact h)
   ·have:=m o .r (by simp only[zC7,hvs,Option.elim_some];exact h)
    rw[hA o this];exact Alk.refl _)
  simp only[opE,q1,h1,q4,zJ]
 case h_18 t x i =>
  split at h
  ·cases h
  rename_i vx h1
  split at h
  ·split at h
   ·rename_i hf
    obtain⟨v1,h2,e⟩:=zE h;cases e;refine qP fun σ hA he hM=>?_
    have q1:=jE (x:=x) (e:=s.env) he;simp only[opE,q1,h1,if_pos hf,h2,zJ]
   ·cases h
  ·cases h
 case h_19 t x i =>
  split at h
  ·cases h
  rename_i vx h1
  split at h
  ·cases h
  rename_i vi h2
  split at h
  ·rename_i ik iv
   obtain⟨v1,h3,e⟩:=zE h;cases e;refine qP fun σ hA he hM=>?_
   have he':∀t∈kG [x,i],zO σ.env t=zO s.env t:=he;have q1:=jE (x:=x) (fun t ht=>he' t (by rw[qR];exact List.mem_append_left _ ht));have q2:=jE (x:=i) (fun t ht=>he' t (by rw[qR];exact List.mem_append_right _ ht));have hvs:kW s.env (Op.indexAddr t x i).operands.toList=some [vx,.int ik iv]:=by simp only[Op.operands,kW,h1,h2,zJ]
   have q4:=zMa (σ:=σ) h3 (fun o ho=>by
    rcases zJx (List.mem_cons_self ..:vx∈[vx,V.int ik iv]) ho with h|h
    ·exact hM o (by simp only[zC7,hvs,Option.elim_some];exact h)
    ·have:=m o .r (by simp only[zC7,hvs,Option.elim_some];exact h)
     rw[hA o this];exact Alk.refl _)
   simp only[opE,q1,q2,h1,h2,q4,zJ]
  ·cases h
 case h_20 x i =>
  split at h
  ·cases h
  rename_i vx h1
  split at h
  ·obtain⟨v1,h2,e⟩:=zE h;cases e
   refine qP fun σ hA he hM=>?_
   have q1:=jE (x:=x) (e:=s.env) he;simp only[opE,q1,h1,h2,zJ]
  ·cases h
 case h_21 c =>
  split at h
  ·cases h
  rename_i vs h1
  have henv:∀σ:St,(∀t∈kG (Op.call c).operands.toList,zO σ.env t=zO s.env t)->kW σ.env c.args.toList=kW s.env c.args.toList:=fun σ he=>zKd (fun t ht=>he t (by
   simp only[Op.operands,Call.operands,Array.toList_append,kG,List.filterMap_append]
   exact List.mem_append_right _ ht))
  split at h
  ·rename_i b hc
   unfold jV at h;split at h
   ·split at h
    ·cases h
    rename_i t h2
    split at h
    ·rename_i hel
     obtain⟨n,h3,e⟩:=zE h;cases e;refine qP fun σ hA he hM=>?_
     simp only[opE,henv σ he,h1,hc,jV,h2,if_pos hel,h3,zJ]
    ·cases h
   ·split at h
    ·cases h
    rename_i t h2
    split at h
    ·cases h
    rename_i t' h3
    split at h
    ·cases h
    rename_i z hz
    split at h
    ·rename_i hcond
     cases h;simp only[zC7,hc,h1,Option.elim_some] at m;obtain⟨_,hW,hX⟩:=m id .x (List.mem_cons_self ..);refine⟨zB3 hW hX,fun σ hA he hM=>?_⟩;refine⟨_,?_,zI5 hA,zB3 hW hX⟩;simp only[opE,henv σ he,h1,hc,jV,h2,h3,hz,if_pos hcond]
    ·cases h
   ·rename_i x y _
    split at h
    ·cases h
    rename_i t h2
    split at h
    ·cases h
    rename_i t' h3
    split at h
    ·rename_i hel
     unfold zBd at h;split at h
     ·cases h
     rename_i z hz
     split at h
     ·cases h
     rename_i el hel2
     split at h
     ·cases h
     rename_i b hb
     split at h
     ·rename_i hcond
      cases h;simp only[zC7,hc,h1,Option.elim_some] at m;obtain⟨_,hW,hX⟩:=m id .x (List.mem_cons_self ..);have m1:May R W X (x.asRow z.cells).accF:=fun o a ha=>m o a (List.mem_cons_of_mem _ (List.mem_append_left _ (by rw[zT1] at ha;exact ha)))
      have m2:May R W X (zWt base y):=fun o a ha=>m o a (List.mem_cons_of_mem _ (List.mem_append_right _ ha))
      refine⟨((zPr hel2 m2).trans (zW5 hb m1)).trans (zB3 hW hX),fun σ hA he hM=>?_⟩;obtain⟨σ1,k1,k2⟩:=zXh hA hel2 m2;obtain⟨σ2,k3,k4⟩:=qD0 k2 hb m1;refine⟨_,?_,zI5 k4,(Mv.trans (zPr k1 m2) (zW5 k3 m1)).trans (zB3 hW hX)⟩;simp only[opE,henv σ he,h1,hc,zF9 (zF2 k1),h2,h3,if_pos hel,zBd,hz,k1,k3,if_pos hcond]
     ·cases h
    ·cases h
   ·rename_i o lo n
    split at h
    ·cases h
    rename_i t h2
    split at h
    ·cases h
    rename_i z hz
    split at h
    ·cases h
    rename_i ob hob
    split at h
    ·rename_i hcond
     cases h;simp only[zC7,hc,h1,Option.elim_some] at m;obtain⟨hR,hW,hX⟩:=m o .x (by simp[zA9,V.mentionL,V.mention]);refine⟨zCg hW (.inl hX),fun σ hA he hM=>?_⟩;have hg:=hA o hR;rw[hob] at hg;refine⟨_,?_,hA.put o _,zCg hW (.inl hX)⟩;simp only[opE,henv σ he,h1,hc,jV,h2,hz,hg,if_pos hcond]
    ·cases h
   ·split at h
    ·cases h
    rename_i t h2
    split at h
    ·rename_i hel
     cases h;refine qP fun σ hA he hM=>?_
     simp only[opE,henv σ he,h1,hc,jV,h2,if_pos hel]
    ·cases h
   ·obtain⟨n,h3,e⟩:=zE h;cases e
    refine qP fun σ hA he hM=>?_
    simp only[opE,henv σ he,h1,hc,jV,h3,zJ]
   ·obtain⟨n,h3,e⟩:=zE h;cases e
    refine qP fun σ hA he hM=>?_
    simp only[opE,henv σ he,h1,hc,jV,h3,zJ]
   ·cases h
  ·rename_i f hc
   split at h
   ·cases h
   rename_i vf h2
   split at h
   ·split at h
    ·rename_i hk
     split at h
     ·rw[hI] at h;cases h
     rename_i hb
     simp only[zC7,hc,h1,h2,Option.elim_some] at m
     have mL:May R W X (zA9 .x v.mention++vD (cfg.md _) (vs++_) s):=m.left.append (by
      have:=m.right
      unfold zEe at this
      exact this.left)
     refine⟨zQz h mL,fun σ hA he hM=>?_⟩
     have q2:=jE (x:=f) (e:=s.env) (e':=σ.env) (fun t ht=>he t (by
      simp only[Op.operands,Call.operands,hc,Array.toList_append,kG,List.filterMap_append]
      exact List.mem_append_left _ ht))
     obtain⟨σ',k1,k2,k3⟩:=zY7 hA h m;exact⟨σ',by simp only[opE,henv σ he,h1,hc,q2,h2,if_pos hk,if_neg hb,k1],k2,k3⟩
    ·cases h
   ·cases h
  ·cases h
 case h_22 t x i =>
  split at h
  ·rename_i ht
   split at h
   ·cases h
   rename_i vx h1
   split at h
   ·split at h
    ·cases h
    rename_i vi h2
    split at h
    ·split at h
     ·rename_i h0
      obtain⟨c,h3,e⟩:=zE h;cases e;refine qP fun σ hA he hM=>?_
      have he':∀t∈kG [x,i],zO σ.env t=zO s.env t:=he;have q1:=jE (x:=x) (fun t ht=>he' t (by rw[qR];exact List.mem_append_left _ ht));have q2:=jE (x:=i) (fun t ht=>he' t (by rw[qR];exact List.mem_append_right _ ht));simp only[opE,if_pos ht,q1,q2,h1,h2,if_pos h0,h3,zJ]
     ·cases h
    ·cases h
   ·cases h
  ·cases h
 case h_23=>cases h
end
end Go.Proofs.YtbcgenkegnmkhaaGreat.Ev
namespace Go.Proofs.YtbcgenkegnmkhaaGreat.Ev
def atD {α:Type} (c:Nat->α) (wr:Nat->Bool) (D:Nat->Bool):Nat->α
 | 0=>c 0
 | m+1=>if(D m&&wr m)=true then c (m+1) else atD c wr D m
section
variable {α : Type} {c : Nat->α} {wr D D' : Nat->Bool} {n i : Nat}
theorem zUw (h:∀m,m<n->wr m=false->c (m+1)=c m) (hD:∀m,m<n->D m=true):atD c wr D n=c n:=by
 induction n with
 | zero=>rfl
 | succ n ih =>
  simp only[atD];have ih:=ih (fun m hm=>h m (by omega)) (fun m hm=>hD m (by omega));cases hw:wr n with
  | true=>rw[hD n (by omega)];rfl
  | false=>simp only[Bool.and_false,Bool.false_eq_true,if_false];rw[ih,h n (by omega) hw]
theorem zQo (h:∀m,m<n->wr m=false->c (m+1)=c m) (h1:∀m,m<i->wr m=true->D m=true) (h2:∀m,i<=m->m<n->wr m=true->D m=false) (hi:i<=n):atD c wr D n=c i:=by
 have low:∀m,m<=i->m<=n->atD c wr D m=c m:=by
  intro m
  induction m with
  | zero=>intro _ _;rfl
  | succ m ih =>
   intro hm hn;have ih:=ih (by omega) (by omega);simp only[atD];cases hw:wr m with
   | true=>rw[h1 m (by omega) hw];rfl
   | false=>simp only[Bool.and_false,Bool.false_eq_true,if_false];rw[ih,h m (by omega) hw]
 have high:∀k,i+k<=n->atD c wr D (i+k)=c i:=by
  intro k
  induction k with
  | zero=>intro _;exact low i (Nat.le_refl _) hi
  | succ k ih =>
   intro hk;have ih:=ih (by omega);rw[show i+(k+1)=(i+k)+1 from by omega];simp only[atD];cases hw:wr (i+k) with
   | true=>rw[h2 (i+k) (by omega) (by omega) hw];simpa using ih
   | false=>simpa using ih
 have:=high (n - i) (by omega)
 rwa [show i+(n - i)=n from by omega] at this
theorem zW0 (hw:wr i=true) (hi:i<n) (hD:D' i=true) (h2:∀m,i<m->m<n->wr m=true->D' m=false):atD c wr D' n=c (i+1):=by
 have high:∀k,i+1+k<=n->atD c wr D' (i+1+k)=c (i+1):=by
  intro k
  induction k with
  | zero=>intro _;simp only[Nat.add_zero,atD];rw[hD,hw];rfl
  | succ k ih =>
   intro hk;have ih:=ih (by omega);rw[show i+1+(k+1)=(i+1+k)+1 from by omega];simp only[atD];cases hx:wr (i+1+k) with
   | true=>rw[h2 (i+1+k) (by omega) (by omega) hx];simpa using ih
   | false=>simpa using ih
 have:=high (n - (i+1)) (by omega)
 rwa [show i+1+(n - (i+1))=n from by omega] at this
theorem zQ3 (h:∀m,m<n->(D m&&wr m)=(D' m&&wr m)):atD c wr D n=atD c wr D' n:=by
 induction n with
 | zero=>rfl
 | succ n ih =>
  simp only[atD];rw[h n (by omega),ih (fun m hm=>h m (by omega))]
theorem zV2 {r:α->α->Prop} (refl:∀a,r a a) (symm:∀{a b},r a b->r b a) (trans:∀{a b d},r a b->r b d->r a d) {X:Nat->Bool} (hX:∀m,X m=true->wr m=true)
  (h:∀m,m<n->X m=false->r (c m) (c (m+1))) (hi:i<n) (hDi:D i=false) (hXi:X i=false) (h1:∀m,m<i->X m=true->D m=true) (h2:∀m,i<m->m<n->D m=true->X m=false)
  (h3:∀k m,k<m->m<n->X k=true->D m=true->wr m=true->D k=true):r (c i) (atD c wr D n):=by
 have low:∀m,m<=i->r (c m) (atD c wr D m):=by
  intro m
  induction m with
  | zero=>intro _;exact refl _
  | succ m ih =>
   intro hm;have ih:=ih (by omega);simp only[atD];split
   ·exact refl _
   ·rename_i hc
    cases hx:X m with
    | true=>exact absurd (by rw[h1 m (by omega) hx,hX m hx];rfl) hc
    | false=>exact trans (symm (h m (by omega) hx)) ih
 have high:∀k,i+k<=n->r (c i) (atD c wr D (i+k))/\((∀q,i<=q->q<i+k->X q=false)/\r (c i) (c (i+k))\/∀q,i+k<=q->q<n->D q=true->wr q=false):=by
  intro k
  induction k with
  | zero=>intro _;exact⟨low i (Nat.le_refl _),.inl ⟨fun q h1 h2=>by omega,refl _⟩⟩
  | succ k ih =>
   intro hk;obtain⟨ih1,ih2⟩:=ih (by omega);have e:i+(k+1)=(i+k)+1:=by omega
   rw[e];simp only[atD];rcases ih2 with⟨hno,hr⟩|hno
   ·cases hx:X (i+k) with
    | true =>
     have hDf:D (i+k)=false:=by
      cases hd:D (i+k) with
      | false=>rfl
      | true =>
       by_cases hk0:k=0
       ·subst hk0;rw[Nat.add_zero,hDi] at hd;cases hd
       ·rw[h2 (i+k) (by omega) (by omega) hd] at hx;cases hx
     rw[hDf];simp only[Bool.false_and,Bool.false_eq_true,if_false];refine⟨ih1,.inr fun q h4 h5 h6=>?_⟩;cases hw:wr q with
     | false=>rfl
     | true=>rw[h3 (i+k) q (by omega) h5 hx h6 hw] at hDf;cases hDf
    | false =>
     have hr':=trans hr (h (i+k) (by omega) hx);refine⟨?_,.inl ⟨fun q h4 h5=>?_,hr'⟩⟩
     ·split
      ·exact hr'
      ·exact ih1
     ·by_cases e:q=i+k
      ·subst e;exact hx
      ·exact hno q h4 (by omega)
   ·refine⟨?_,.inr fun q h4 h5 h6=>hno q (by omega) h5 h6⟩
    split
    ·rename_i hc
     simp only[Bool.and_eq_true] at hc;rw[hno (i+k) (Nat.le_refl _) (by omega) hc.1] at hc;cases hc.2
    ·exact ih1
 have:=(high (n - i) (by omega)).1
 rwa [show i+(n - i)=n from by omega] at this
end
end Go.Proofs.YtbcgenkegnmkhaaGreat.Ev
namespace Go.Proofs.YtbcgenkegnmkhaaGreat.Ev
open Go
set_option linter.unusedSectionVars false
set_option linter.unusedSimpArgs false
structure Run (call:Call) (cfg:Cfg) (L:List Oper) (base:Nat) (lo hi:Nat) (st:Nat->St) (val:Nat->V) (acc:Nat->List (Nat×Acc)) (act:Nat->Bool):Prop where
 guard:∀i o,lo<=i->i<hi->L[i]? = some o->xA L (st i).env o.guard=some (act i)
 on:∀i o,lo<=i->i<hi->L[i]? = some o->act i=true->∃mid,opE call cfg (base+32 * i) base (st i) o.type o.op=some (val i,mid)/\st (i+1)=mid.put o.dst (val i)/\acc i=zC7 cfg (base+32 * i) base (st i) (val i) o.op
 off:∀i o,lo<=i->i<hi->L[i]? = some o->act i=false->st (i+1)=(st i).put o.dst (.iop .und)/\acc i=[]/\val i = .iop .und
theorem qAm {call:Call} {cfg:Cfg} {L:List Oper} {base:Nat}:∀(rest pre:List Oper) {s:St} {tr:List (List (Nat×Acc))} {r:St×List (List (Nat×Acc))},L=pre++rest->zEg call cfg true L base pre.length rest s tr=some r ->
  ∃st val acc act,Run call.noI cfg L base pre.length (pre.length+rest.length) st val acc act/\st pre.length=s/\st (pre.length+rest.length)=r.1/\r.2=((List.range' pre.length rest.length).map acc).reverse++tr
 | [],pre,s,tr,r,e,h=>by
  simp only[zEg,Option.some.injEq] at h;subst h;exact⟨fun _=>s,fun _=>.und,fun _=>[],fun _=>false,⟨fun i o h1 h2=>by simp at h2;omega,fun i o h1 h2=>by simp at h2;omega,fun i o h1 h2=>by simp at h2;omega⟩,rfl,rfl,by simp⟩
 | o::rest,pre,s,tr,r,e,h=>by
  have e':L=(pre++[o])++rest:=by rw[e];simp
  have hlen:(pre++[o]).length=pre.length+1:=by simp
  have hget:L[pre.length]? = some o:=by rw[e];simp
  simp only[zEg,Call.pick,St.on,if_true] at h
  have build:∀{s1:St} {a1:List (Nat×Acc)} {v1:V} {b1:Bool},zEg call cfg true L base (pre.length+1) rest s1 (a1::tr)=some r->xA L s.env o.guard=some b1 ->
    (b1=true->∃mid,opE call.noI cfg (base+32 * pre.length) base s o.type o.op=some (v1,mid)/\s1=mid.put o.dst v1/\a1=zC7 cfg (base+32 * pre.length) base s v1 o.op)->(b1=false->s1=s.put o.dst (.iop .und)/\a1=[]/\v1 = .iop .und) ->
    ∃st val acc act,Run call.noI cfg L base pre.length (pre.length+(o::rest).length) st val acc act/\st pre.length=s/\st (pre.length+(o::rest).length)=r.1/\r.2=((List.range' pre.length (o::rest).length).map acc).reverse++tr:=by
   intro s1 a1 v1 b1 hr hg h1 h0;rw[<-hlen] at hr;obtain⟨st,val,acc,act,R,k1,k2,k3⟩:=qAm rest (pre++[o]) e' hr;rw[hlen] at R k1 k2 k3;have hend:pre.length+(o::rest).length=pre.length+1+rest.length:=by simp only[List.length_cons];omega
   refine⟨fun j=>if j=pre.length then s else st j,fun j=>if j=pre.length then v1 else val j,fun j=>if j=pre.length then a1 else acc j,fun j=>if j=pre.length then b1 else act j,⟨?_,?_,?_⟩,by simp,?_,?_⟩
   ·intro i q g1 g2 g3
    by_cases hi:i=pre.length
    ·subst hi
     rw[hget] at g3;cases g3;simp only[if_true];exact hg
    ·simp only[if_neg hi]
     exact R.guard i q (by omega) (by omega) g3
   ·intro i q g1 g2 g3 g4
    by_cases hi:i=pre.length
    ·subst hi
     rw[hget] at g3;cases g3;simp only[if_true] at g4 ⊢;obtain⟨mid,m1,m2,m3⟩:=h1 g4;refine⟨mid,m1,?_,m3⟩;rw[if_neg (by omega),k1];exact m2
    ·simp only[if_neg hi] at g4 ⊢
     rw[if_neg (by omega)];exact R.on i q (by omega) (by omega) g3 g4
   ·intro i q g1 g2 g3 g4
    by_cases hi:i=pre.length
    ·subst hi
     rw[hget] at g3;cases g3;simp only[if_true] at g4 ⊢;rw[if_neg (by omega),k1];exact h0 g4
    ·simp only[if_neg hi] at g4 ⊢
     rw[if_neg (by omega)];exact R.off i q (by omega) (by omega) g3 g4
   ·simp only
    rw[if_neg (by simp only[List.length_cons];omega),hend];exact k2
   ·rw[k3]
    simp only[List.length_cons,List.range'_succ,List.map_cons,List.reverse_cons,List.append_assoc,List.cons_append,List.nil_append,if_true]
    congr 2
    apply List.map_congr_left;intro j hj
    have:=(List.mem_range'_1.1 hj).1
    rw[if_neg (by omega)]
  split at h
  ·cases h
  ·rename_i hg
   split at h
   ·cases h
   ·rename_i a ha
    exact build h hg (fun _=>⟨a.2,ha,rfl,rfl⟩) (fun e=>by cases e)
  ·rename_i hg
   exact build h hg (fun e=>by cases e) (fun _=>⟨rfl,rfl,rfl⟩)
def Ord (L:List Oper) (i j:Nat):Prop:=((yQ L 0 L []).getD j 0).testBit i=true
def zOc (o:Oper) (j:Nat) (B:List Nat):Nat:=o.after.toList.foldl (fun s e=>if Region.binds .any e=true/\e.on<j then s ||| 2 ^ e.on ||| B.getD e.on 0 else s) 0
theorem zGc {ops:List Oper}:∀{rest:List Oper} {i:Nat} {B:List Nat},(yQ ops i rest B).length=B.length+rest.length
 | [],i,B=>rfl
 | o::r,i,B=>by
  simp only[yQ];rw[zGc];simp;omega
theorem zCu {ops:List Oper}:∀{rest:List Oper} {i:Nat} {B:List Nat} {j:Nat},j<B.length->(yQ ops i rest B).getD j 0=B.getD j 0
 | [],i,B,j,h=>rfl
 | o::r,i,B,j,h=>by
  simp only[yQ];rw[zCu (by simp;omega)];simp[List.getD_eq_getElem?_getD,List.getElem?_append_left h]
theorem zIs {ops:List Oper}:∀{rest:List Oper} {i:Nat} {B:List Nat} {j:Nat} {o:Oper},B.length=i->rest[j]? = some o->(yQ ops i rest B).getD (i+j) 0=zOc o (i+j) (yQ ops i rest B)
 | [],i,B,j,o,h,e=>by cases e
 | q::r,i,B,0,o,h,e=>by
  simp only[List.getElem?_cons_zero,Option.some.injEq] at e;subst e;simp only[yQ,Nat.add_zero];rw[zCu (by simp;omega)]
  have:(B++[q.after.toList.foldl (fun s e=>if Region.binds .any e=true/\e.on<i then s ||| 2 ^ e.on ||| B.getD e.on 0 else s) 0]).getD i 0=q.after.toList.foldl (fun s e=>if Region.binds .any e=true/\e.on<i then s ||| 2 ^ e.on ||| B.getD e.on 0 else s) 0:=by
   rw[List.getD_eq_getElem?_getD,List.getElem?_append_right (by omega)];simp[h]
  rw[this];unfold zOc
  congr 1
  funext s e
  split
  ·rename_i hc
   rw[zCu (by simp;omega)];rw[List.getD_eq_getElem?_getD,List.getD_eq_getElem?_getD,List.getElem?_append_left (by omega)]
  ·rfl
 | q::r,i,B,j+1,o,h,e=>by
  simp only[List.getElem?_cons_succ] at e;simp only[yQ];rw[show i+(j+1)=(i+1)+j from by omega];exact zIs (by simp[h]) e
theorem zRi {es:List Edge} {j:Nat} {B:List Nat} {i:Nat}:∀{s:Nat},(es.foldl (fun s e=>if Region.binds .any e=true/\e.on<j then s ||| 2 ^ e.on ||| B.getD e.on 0 else s) s).testBit i=true ->
  s.testBit i=true\/∃e∈es,Region.binds .any e=true/\e.on<j/\(i=e.on\/(B.getD e.on 0).testBit i=true):=by
 induction es with
 | nil=>intro s h;exact .inl h
 | cons e es ih =>
  intro s h;simp only[List.foldl_cons] at h;rcases ih h with h|⟨e',h1,h2⟩
  ·split at h
   ·rename_i hc
    rw[Nat.testBit_or,Nat.testBit_or,Bool.or_eq_true,Bool.or_eq_true] at h;rcases h with(h|h)|h
    ·exact .inl h
    ·refine .inr ⟨e,List.mem_cons_self ..,hc.1,hc.2,.inl ?_⟩
     rw[Nat.testBit_two_pow] at h
     simpa using Eq.symm (by simpa using h)
    ·exact .inr ⟨e,List.mem_cons_self ..,hc.1,hc.2,.inr h⟩
   ·exact .inl h
  ·exact .inr ⟨e',List.mem_cons_of_mem _ h1,h2⟩
theorem zPp {L:List Oper} {i j:Nat} {o:Oper} (ho:L[j]? = some o) (h:Ord L i j):∃e∈o.after.toList,Region.binds .any e=true/\e.on<j/\(i=e.on\/Ord L i e.on):=by
 unfold Ord at h
 have:=zIs (ops:=L) (rest:=L) (i:=0) (B:=[]) rfl ho
 rw[Nat.zero_add] at this;rw[this] at h;unfold zOc at h;rcases zRi h with h|h
 ·simp at h
 ·exact h
theorem zSj {L:List Oper} {D:Nat->Prop} (hD:∀j o,D j->L[j]? = some o->∀e∈o.after.toList,Region.binds .any e=true->D e.on):∀(j:Nat) {i:Nat},D j->Ord L i j->D i:=by
 intro j
 induction j using Nat.strongRecOn with
 | _ j ih =>
  intro i hj h;cases ho:L[j]? with
  | none =>
   have hl:L.length<=j:=by simpa using ho
   unfold Ord at h;rw[List.getD_eq_getElem?_getD,List.getElem?_eq_none (by rw[zGc];simpa using hl)] at h;simp at h
  | some o =>
   obtain⟨e,h1,h2,h3,h4⟩:=zPp ho h;have hde:=hD j o hj ho e h1 h2;rcases h4 with h4|h4
   ·subst h4;exact hde
   ·exact ih e.on h3 hde h4
theorem zVq {bits:List Nat} {acc:Nat->List (Nat×Acc)}:∀{k:Nat},zMs bits k ((List.range' 0 (k+1)).map acc).reverse=true->∀i j,i<j->j<=k->(bits.getD j 0).testBit i=true\/zIo (acc j) (acc i)=false:=by
 intro k
 induction k with
 | zero=>intro _ i j h1 h2;omega
 | succ k ih =>
  intro h i j h1 h2
  have e:((List.range' 0 (k+1+1)).map acc).reverse=acc (k+1)::((List.range' 0 (k+1)).map acc).reverse:=by
   rw[List.range'_concat];simp
  rw[e] at h;simp only[zMs,Bool.and_eq_true] at h
  by_cases hj:j=k+1
  ·subst hj
   have h0:=h.1;rw[List.all_eq_true] at h0
   have hm:(acc i,k - i)∈((List.range' 0 (k+1)).map acc).reverse.zipIdx:=by
    rw[List.mem_zipIdx_iff_getElem?];rw[List.getElem?_reverse (by simp;omega)];simp only[List.length_map,List.length_range',List.getElem?_map];rw[List.getElem?_range' (by omega)];simp only[Option.map_some,Option.some.injEq]
    congr 1;omega
   have:=h0 _ hm
   simp only[Bool.or_eq_true,Bool.not_eq_true'] at this;rw[show k+1 - 1 - (k - i)=i from by omega] at this;exact this
  ·exact ih (by simpa using h.2) i j h1 (by omega)
theorem zZw {a b:List (Nat×Acc)} {o:Nat} {x1 y1:Acc} (ha:(o,x1)∈a) (hb:(o,y1)∈b) (h:x1.clash y1=true):zIo a b=true:=by
 unfold zIo;rw[List.any_eq_true];refine⟨(o,x1),ha,?_⟩;rw[List.any_eq_true];exact⟨(o,y1),hb,by simp[h]⟩
def isW:Acc->Bool
 | .w=>true
 | .x=>true
 | _=>false
def isX:Acc->Bool
 | .x=>true
 | _=>false
def wrO (acc:Nat->List (Nat×Acc)) (o i:Nat):Bool:=(acc i).any fun p=>decide (p.1=o)&&isW p.2
def wrX (acc:Nat->List (Nat×Acc)) (o i:Nat):Bool:=(acc i).any fun p=>decide (p.1=o)&&isX p.2
def wrT (L:List Oper) (t i:Nat):Bool:=decide ((L[i]?).bind (·.dst)=some t)
theorem wrO_spec {acc:Nat->List (Nat×Acc)} {o i:Nat}:wrO acc o i=true↔∃a,(o,a)∈acc i/\isW a=true:=by
 unfold wrO;rw[List.any_eq_true];constructor
 ·rintro⟨⟨q,a⟩,h,e⟩
  simp only[Bool.and_eq_true,decide_eq_true_eq] at e;obtain⟨rfl,e⟩:=e;exact⟨a,h,e⟩
 ·rintro⟨a,h,e⟩
  exact⟨(o,a),h,by simp[e]⟩
theorem wrX_spec {acc:Nat->List (Nat×Acc)} {o i:Nat}:wrX acc o i=true↔∃a,(o,a)∈acc i/\isX a=true:=by
 unfold wrX;rw[List.any_eq_true];constructor
 ·rintro⟨⟨q,a⟩,h,e⟩
  simp only[Bool.and_eq_true,decide_eq_true_eq] at e;obtain⟨rfl,e⟩:=e;exact⟨a,h,e⟩
 ·rintro⟨a,h,e⟩
  exact⟨(o,a),h,by simp[e]⟩
structure Calm (call:Call) (cfg:Cfg) (L:List Oper) (base:Nat) (st:Nat->St) (val:Nat->V) (acc:Nat->List (Nat×Acc)) (act:Nat->Bool):Prop where
 run:Run call cfg L base 0 L.length st val acc act
 calm:∀i j,i<j->j<L.length->Ord L i j\/zIo (acc j) (acc i)=false
 temps:zGs L=true
 noI:∀f vs s id,call.i f vs s id=none
section
variable {call : Call} {cfg : Cfg} {L : List Oper} {base : Nat} {st : Nat->St} {val : Nat->V} {acc : Nat->List (Nat × Acc)} {act : Nat->Bool} (Q : Calm call cfg L base st val acc act)
include Q
theorem Calm.temp {i j:Nat} {a b:Oper} (hij:i<j) (hj:j<L.length) (ha:L[i]? = some a) (hb:L[j]? = some b) (h:(∃t,a.dst=some t/\t∈zD8 L b)\/∃t,b.dst=some t/\t∈zD8 L a):Ord L i j:=by
 have ht:=Q.temps;unfold zGs at ht;simp only[Bool.and_eq_true] at ht;have h2:=ht.2;rw[List.all_eq_true] at h2;have h3:=h2 j (List.mem_range.2 hj);rw[List.all_eq_true] at h3;have h4:=h3 i (List.mem_range.2 hij);rw[ha,hb] at h4;simp only[Bool.or_eq_true,Bool.not_eq_true',Bool.or_eq_false_iff] at h4;rcases h4 with h4|⟨h5,h6⟩
 ·exact h4
 ·exfalso
  rcases h with⟨t,e,hm⟩|⟨t,e,hm⟩
  ·rw[e] at h5
   simp only[Option.toList,List.any_cons,List.any_nil,Bool.or_false] at h5;rw[List.contains_eq_mem] at h5;simp[hm] at h5
  ·rw[e] at h6
   simp only[Option.toList,List.any_cons,List.any_nil,Bool.or_false] at h6;rw[List.contains_eq_mem] at h6;simp[hm] at h6
theorem Calm.edge {j:Nat} {o:Oper} (ho:L[j]? = some o) {e:Edge} (he:e∈o.after.toList) (hb:Region.binds .any e=true):e.on<j:=by
 have ht:=Q.temps;unfold zGs at ht;simp only[Bool.and_eq_true] at ht;have h1:=ht.1;rw[List.all_eq_true] at h1;have hm:(o,j)∈L.zipIdx:=by rw[List.mem_zipIdx_iff_getElem?];exact ho
 have h2:=h1 _ hm;rw[List.all_eq_true] at h2;have h3:=h2 e he
 simpa [hb] using h3
theorem Calm.obj {i j:Nat} (hij:i<j) (hj:j<L.length) {o:Nat} {a b:Acc} (ha:(o,a)∈acc j) (hb:(o,b)∈acc i) (h:a.clash b=true):Ord L i j:=by
 rcases Q.calm i j hij hj with h1|h1
 ·exact h1
 ·rw[zZw ha hb h] at h1;cases h1
theorem Calm.may (i:Nat):May (fun o=>∃a,(o,a)∈acc i/\a≠.m) (fun o=>wrO acc o i=true) (fun o=>wrX acc o i=true) (acc i):=by
 intro o a ha;cases a with
 | m=>trivial
 | r=>exact⟨.r,ha,by simp⟩
 | w=>exact⟨⟨.w,ha,by simp⟩,wrO_spec.2 ⟨.w,ha,rfl⟩⟩
 | x=>exact⟨⟨.x,ha,by simp⟩,wrO_spec.2 ⟨.x,ha,rfl⟩,wrX_spec.2 ⟨.x,ha,rfl⟩⟩
theorem Calm.step {i:Nat} (hi:i<L.length):(∀o,wrO acc o i=false->zO (st (i+1)).obs o=zO (st i).obs o)/\(∀o,wrX acc o i=false->Alk (zO (st i).obs o) (zO (st (i+1)).obs o)) /\
  (∀t,wrT L t i=false->zO (st (i+1)).env t=zO (st i).env t):=by
 have hget:L[i]? = some L[i]:=List.getElem?_eq_getElem hi;have obs_put:∀(s:St) (d:Option Nat) (v:V),(s.put d v).obs=s.obs:=fun s d v=>by cases d<;>rfl
 have env_put:∀(s:St) (v:V) (t:Nat),wrT L t i=false->zO (s.put (L[i]).dst v).env t=zO s.env t:=by
  intro s v t ht;unfold wrT at ht;rw[hget] at ht;simp only[Option.bind_some,decide_eq_false_iff_not] at ht;cases hd:(L[i]).dst with
  | none=>rfl
  | some d =>
   have e:t≠d:=fun e=>ht (by rw[hd,e])
   simp only[St.put,zT e]
 cases ha:act i with
 | true =>
  obtain⟨mid,h1,h2,h3⟩:=Q.run.on i _ (Nat.zero_le _) hi hget ha;have hm:May (fun o=>∃a,(o,a)∈acc i/\a≠.m) (fun o=>wrO acc o i=true) (fun o=>wrX acc o i=true) (zC7 cfg (base+32 * i) base (st i) (val i) (L[i]).op):=fun o a ha=>Q.may i o a (by rw[h3];exact ha)
  have hl:=(zM4 Q.noI h1 (R:=fun o=>∃a,(o,a)∈acc i/\a≠.m) (W:=fun o=>wrO acc o i=true) (X:=fun o=>wrX acc o i=true) hm).mv;rw[h2];refine⟨fun o ho=>?_,fun o ho=>?_,fun t ht=>?_⟩
  ·rw[obs_put];exact hl.w o (by rw[ho];simp)
  ·rw[obs_put];exact hl.x o (by rw[ho];simp)
  ·rw[env_put mid _ t ht,hl.env]
 | false =>
  obtain⟨h1,h2,h3⟩:=Q.run.off i _ (Nat.zero_le _) hi hget ha;rw[h1];refine⟨fun o _=>by rw[obs_put],fun o _=>by rw[obs_put];exact Alk.refl _,fun t ht=>env_put (st i) _ t ht⟩
theorem qF0 {a:Acc} (h:isX a=true):isW a=true:=by cases a<;>simp_all [isX,isW]
variable {D : Nat->Bool} (hcl : ∀ j o,D j = true->L[j]? = some o->∀ e∈o.after.toList,Region.binds .any e = true->D e.on = true)
include hcl
theorem Calm.down {i j:Nat} (hj:D j=true) (h:Ord L i j):D i=true :=
 zSj (D:=fun i=>D i=true) hcl j hj h
variable {i : Nat} {o : Oper} (hi : i < L.length) (hget : L[i]? = some o) (hDi : D i = false) (hrd : ∀ e∈o.after.toList,Region.binds .any e = true->D e.on = true)
include hi hget hDi hrd
theorem Calm.pred {m:Nat} (h:Ord L m i):D m=true:=by
 obtain⟨e,h1,h2,_,h4⟩:=zPp hget h;have hd:=hrd e h1 h2;rcases h4 with h4|h4
 ·subst h4;exact hd
 ·exact Q.down hcl hd h4
theorem Calm.slot {t:Nat} (ht:t∈zD8 L o):atD (fun m=>zO (st m).env t) (wrT L t) D L.length=zO (st i).env t:=by
 refine zQo (fun m hm hw=>(Q.step hm).2.2 t hw) ?_ ?_ (Nat.le_of_lt hi)
 ·intro m hm hw
  have hml:m<L.length:=by omega
  have hgm:L[m]? = some L[m]:=List.getElem?_eq_getElem hml;unfold wrT at hw;rw[hgm] at hw;simp only[Option.bind_some,decide_eq_true_eq] at hw;exact Q.pred hcl hi hget hDi hrd (Q.temp hm hi hgm hget (.inl ⟨t,hw,ht⟩))
 ·intro m h1 h2 hw
  by_cases e:m=i
  ·subst e;exact hDi
  ·have hgm:L[m]? = some L[m]:=List.getElem?_eq_getElem h2
   unfold wrT at hw;rw[hgm] at hw;simp only[Option.bind_some,decide_eq_true_eq] at hw;cases hd:D m with
   | false=>rfl
   | true =>
    have:=Q.down hcl hd (Q.temp (by omega) h2 hget hgm (.inr ⟨t,hw,ht⟩))
    rw[hDi] at this;cases this
theorem Calm.object {q:Nat} (hq:∃a,(q,a)∈acc i/\a≠.m):atD (fun m=>zO (st m).obs q) (wrO acc q) D L.length=zO (st i).obs q:=by
 obtain⟨a,ha,hne⟩:=hq
 have clash:∀{b:Acc},isW b=true->a.clash b=true/\b.clash a=true:=by
  intro b hb;cases a<;>cases b<;>simp_all [isW,Acc.clash]
 refine zQo (fun m hm hw=>(Q.step hm).1 q hw) ?_ ?_ (Nat.le_of_lt hi)
 ·intro m hm hw
  obtain⟨b,hb,hwb⟩:=wrO_spec.1 hw;exact Q.pred hcl hi hget hDi hrd (Q.obj hm hi ha hb (clash hwb).1)
 ·intro m h1 h2 hw
  by_cases e:m=i
  ·subst e;exact hDi
  ·obtain⟨b,hb,hwb⟩:=wrO_spec.1 hw
   cases hd:D m with
   | false=>rfl
   | true =>
    have:=Q.down hcl hd (Q.obj (by omega) h2 hb ha (clash hwb).2)
    rw[hDi] at this;cases this
theorem Calm.shape {q:Nat} (hq:∃a,(q,a)∈acc i):Alk (zO (st i).obs q) (atD (fun m=>zO (st m).obs q) (wrO acc q) D L.length):=by
 obtain⟨a,ha⟩:=hq
 by_cases hr:∃a,(q,a)∈acc i/\a≠.m
 ·rw[Q.object hcl hi hget hDi hrd hr];exact Alk.refl _
 ·have ham:a = .m:=by
   cases a with
   | m=>rfl
   | _=>exact absurd ⟨_,ha,by simp⟩ hr
  subst ham
  have clash:∀{b:Acc},isX b=true->Acc.clash .m b=true/\b.clash .m=true:=by
   intro b hb;cases b<;>simp_all [isX,Acc.clash]
  have cw:∀{b d:Acc},isX b=true->isW d=true->d.clash b=true:=by
   intro b d hb hd;cases b<;>cases d<;>simp_all [isX,isW,Acc.clash]
  refine zV2 (c:=fun m=>zO (st m).obs q) (r:=Alk) Alk.refl Alk.symm Alk.trans (X:=wrX acc q) ?_ (fun m hm hx=>(Q.step hm).2.1 q hx) hi hDi ?_ ?_ ?_ ?_
  ·intro m hm
   obtain⟨b,hb,hx⟩:=wrX_spec.1 hm;exact wrO_spec.2 ⟨b,hb,qF0 Q hx⟩
  ·cases hx:wrX acc q i with
   | false=>rfl
   | true =>
    obtain⟨b,hb,hxb⟩:=wrX_spec.1 hx;exact absurd ⟨b,hb,by intro e;subst e;cases hxb⟩ hr
  ·intro m hm hx
   obtain⟨b,hb,hxb⟩:=wrX_spec.1 hx;exact Q.pred hcl hi hget hDi hrd (Q.obj hm hi ha hb (clash hxb).1)
  ·intro m h1 h2 hd
   cases hx:wrX acc q m with
   | false=>rfl
   | true =>
    obtain⟨b,hb,hxb⟩:=wrX_spec.1 hx
    have:=Q.down hcl hd (Q.obj h1 h2 hb ha (clash hxb).2)
    rw[hDi] at this;cases this
  ·intro k m h1 h2 hx hd hw
   obtain⟨b,hb,hxb⟩:=wrX_spec.1 hx;obtain⟨d,hd',hwd⟩:=wrO_spec.1 hw;exact Q.down hcl hd (Q.obj h1 h2 hd' hb (cw hxb hwd))
variable {D' : Nat->Bool} (hD' : ∀ m,D' m = (D m || decide (m = i)))
include hD'
theorem Calm.slot' (t:Nat):atD (fun m=>zO (st m).env t) (wrT L t) D' L.length=if wrT L t i=true then zO (st (i+1)).env t else atD (fun m=>zO (st m).env t) (wrT L t) D L.length:=by
 split
 ·rename_i hw
  refine zW0 (c:=fun m=>zO (st m).env t) hw hi (by rw[hD'];simp) ?_;intro m h1 h2 hwm;have hgm:L[m]? = some L[m]:=List.getElem?_eq_getElem h2;unfold wrT at hw hwm;rw[hgm] at hwm;rw[hget] at hw;simp only[Option.bind_some,decide_eq_true_eq] at hw hwm;rw[hD'];cases hd:D m with
  | false=>simp;omega
  | true =>
   have:=Q.down hcl hd (Q.temp h1 h2 hget hgm (.inr ⟨t,hwm,by unfold zD8;rw[hw];simp⟩))
   rw[hDi] at this;cases this
 ·rename_i hw
  refine zQ3 fun m hm=>?_
  rw[hD']
  by_cases e:m=i
  ·subst e
   simp only[Bool.not_eq_true] at hw;rw[hw];simp
  ·simp[e]
theorem Calm.object' (q:Nat):atD (fun m=>zO (st m).obs q) (wrO acc q) D' L.length=if wrO acc q i=true then zO (st (i+1)).obs q else atD (fun m=>zO (st m).obs q) (wrO acc q) D L.length:=by
 split
 ·rename_i hw
  refine zW0 (c:=fun m=>zO (st m).obs q) hw hi (by rw[hD'];simp) ?_;intro m h1 h2 hwm;obtain⟨a,ha,hwa⟩:=wrO_spec.1 hw;obtain⟨b,hb,hwb⟩:=wrO_spec.1 hwm;have cw:b.clash a=true:=by cases a<;>cases b<;>simp_all [isW,Acc.clash]
  rw[hD'];cases hd:D m with
  | false=>simp;omega
  | true =>
   have:=Q.down hcl hd (Q.obj h1 h2 hb ha cw)
   rw[hDi] at this;cases this
 ·rename_i hw
  refine zQ3 fun m hm=>?_
  rw[hD']
  by_cases e:m=i
  ·subst e
   simp only[Bool.not_eq_true] at hw;rw[hw];simp
  ·simp[e]
end
def DInv (F:Fix) (L:List Oper) (base:Nat) (st:Nat->St) (acc:Nat->List (Nat×Acc)) (D:Nat->Bool) (a:Act) (w:World):Prop :=
 ∃σ sh u h fp,Sim F.w0 F.fa sh u h fp σ a.tmps w/\Held F sh u h a/\(∀q,u q->q<base\/∃i,i<L.length/\D i=true/\base+32 * i<=q/\q<base+32 * i+32) /\
  (∀t,zO σ.env t=atD (fun m=>zO (st m).env t) (wrT L t) D L.length)/\∀q,zO σ.obs q=atD (fun m=>zO (st m).obs q) (wrO acc q) D L.length
section
variable {P : Program} {cfg : Cfg} {call : Call} {ops : Array Oper} {base : Nat} {st : Nat->St} {val : Nat->V} {acc : Nat->List (Nat × Acc)} {act : Nat->Bool}
theorem zTr (C:CfgOK P cfg) (K:jP P call) (hI:∀f vs s id,call.i f vs s id=none) (Q:Calm call cfg ops.toList base st val acc act) {F:Fix} (hb:F.b0<=base) (hd:∀x∈ops.toList,zHa F.n x=true) {D D':Nat->Bool}
  (hcl:∀j o,D j=true->ops.toList[j]? = some o->∀e∈o.after.toList,Region.binds .any e=true->D e.on=true) {i:Nat} {o:Oper} (hi:i<ops.toList.length) (hget:ops.toList[i]? = some o) (hDi:D i=false)
  (hrd:∀e∈o.after.toList,Region.binds .any e=true->D e.on=true) (hD':∀m,D' m=(D m||decide (m=i))) {R:Exit->Act->World->Prop} {K':Act->World->Prop} {a:Act} {w:World} (I:DInv F ops.toList base st acc D a w)
  (hK:∀a' w',DInv F ops.toList base st acc D' a' w'->K' a' w'):wpOp P ops R i K' a w:=by
 obtain⟨σ,sh,u,h,fp,S,H,hu,he,ho⟩:=I;have hmem:o∈ops.toList:=List.mem_of_getElem? hget;have hget':ops[i]? = some o:=by rw[<-hget];simp
 have slots:∀t∈zD8 ops.toList o,zO σ.env t=zO (st i).env t:=fun t ht=>(he t).trans (Q.slot hcl hi hget hDi hrd ht)
 have hguard:xA ops.toList σ.env o.guard=some (act i):=by
  have hg:=Q.run.guard i o (Nat.zero_le _) hi hget;rw[<-hg];unfold xA;cases hgd:o.guard with
  | none=>rfl
  | some p =>
   obtain⟨j,want⟩:=p;simp only;cases hj:(ops.toList[j]?).bind (·.dst) with
   | none=>rfl
   | some t =>
    simp only[Option.bind_some];rw[slots t (by unfold zD8;rw[hgd];simp only[hj];simp)]
 have hw:=zD3 S hguard hd H.n;have hobs':∀(s:St) (d:Option Nat) (v:V),(s.put d v).obs=s.obs:=fun s d v=>by cases d<;>rfl
 have envs:∀{σ' s':St} {v:V},σ'.env=σ.env->st (i+1)=s'.put o.dst v->∀t,zO (σ'.put o.dst v).env t=atD (fun m=>zO (st m).env t) (wrT ops.toList t) D' ops.toList.length:=by
  intro σ' s' v h1 h2 t;rw[Q.slot' hcl hi hget hDi hrd hD' t];split
  ·rename_i ht
   unfold wrT at ht;rw[hget] at ht;simp only[Option.bind_some,decide_eq_true_eq] at ht;rw[h2,ht];simp only[St.put,qG]
  ·rename_i ht
   unfold wrT at ht;rw[hget] at ht;simp only[Option.bind_some,decide_eq_true_eq] at ht;rw[<-he t,<- h1];cases hdd:o.dst with
   | none=>rfl
   | some d =>
    have e:t≠d:=fun e=>ht (by rw[hdd,e])
    simp only[St.put,zT e]
 unfold wpOp;rw[hget'];simp only;rw[hw];cases hact:act i with
 | true =>
  rw[if_pos rfl]
  left
  obtain⟨mid,h1,h2,h3⟩:=Q.run.on i o (Nat.zero_le _) hi hget hact;have hm:May (fun o=>∃a,(o,a)∈acc i/\a≠.m) (fun o=>wrO acc o i=true) (fun o=>wrX acc o i=true) (zC7 cfg (base+32 * i) base (st i) (val i) o.op):=fun q b hb=>Q.may i q b (by rw[h3];exact hb)
  have hL:=zM4 hI h1 (R:=fun o=>∃a,(o,a)∈acc i/\a≠.m) (W:=fun o=>wrO acc o i=true) (X:=fun o=>wrX acc o i=true) hm
  obtain⟨σ',k1,k2,k3⟩:=hL.ag σ (fun q hq=>(ho q).trans (Q.object hcl hi hget hDi hrd hq)) (fun t ht=>slots t (by unfold zD8;simp[ht])) (fun q hq=>by
   rw[ho q]
   exact Q.shape hcl hi hget hDi hrd ⟨.m,by rw[h3];exact hq⟩)
  have hD:=zQ4 (o:=o) (id:=base+32 * i) (base:=base) C K hI S (v:=val i) (s':=σ') k1 (fun q hq1 hq2 huq=>by
   rcases hu q huq with hq|⟨j,_,hj,h1,h2⟩
   ·omega
   ·have:j=i:=by omega
    subst this;rw[hDi] at hj;cases hj)
  refine hD _ _ (fun x w' hT=>?_);obtain⟨sh',u',h',fp',S',rx,hmx,hu',hs1,hs2,hle,huu⟩:=hT;refine hK _ _ ⟨σ'.put o.dst (val i),sh',u',h',fp',zEp S' (vZ (hd o hmem) H.n) hmx rx,H.put (id:=base) (fun o ho=>(hu' o ho).imp_right (fun k=>by omega)) hb hs1 hs2 hle huu zC8 vL,fun q hq=>?_,envs k3.env h2,fun q=>?_⟩
  ·rcases hu' q hq with hq|hq
   ·rcases hu q hq with hq|⟨j,j1,j2,j3,j4⟩
    ·exact .inl hq
    ·exact .inr ⟨j,j1,by rw[hD',j2];rfl,j3,j4⟩
   ·exact .inr ⟨i,hi,by rw[hD'];simp,hq.1,hq.2⟩
  ·rw[hobs',Q.object' hcl hi hget hDi hrd hD' q]
   split
   ·rename_i hwq
    rw[h2,hobs'];obtain⟨b,hb,hwb⟩:=wrO_spec.1 hwq;exact k2 q ⟨b,hb,by intro e;subst e;cases hwb⟩
   ·rename_i hwq
    rw[k3.w q hwq,ho q]
 | false =>
  simp only[Bool.false_eq_true,if_false];obtain⟨h1,h2,h3⟩:=Q.run.off i o (Nat.zero_le _) hi hget hact;refine hK _ _ ⟨σ.put o.dst (.iop .und),sh,u,h,fp,zEp S (vZ (hd o hmem) H.n) (by intro q hq;cases hq) rfl,H.put (id:=base) (fun o ho=>.inl ho) hb (fun _ h=>h) (fun _ h=>.inl h) (Hs.Le.refl u h) (fun _ h=>h) zC8 vL,fun q hq=>?_,envs rfl h1,fun q=>?_⟩
  ·rcases hu q hq with hq|⟨j,j1,j2,j3,j4⟩
   ·exact .inl hq
   ·exact .inr ⟨j,j1,by rw[hD',j2];rfl,j3,j4⟩
  ·rw[hobs',Q.object' hcl hi hget hDi hrd hD' q,ho q]
   rw[if_neg];intro e;obtain⟨b,hb,_⟩:=wrO_spec.1 e;rw[h2] at hb;cases hb
def left (n:Nat) (D:Nat->Bool):Nat:=((List.range n).filter fun i=>!D i).length
theorem zVv {n:Nat} {D:Nat->Bool} (h:left n D=0):∀i,i<n->D i=true:=by
 intro i hi;unfold left at h
 have:=List.length_eq_zero_iff.1 h
 cases hd:D i with
 | true=>rfl
 | false =>
  have hm:i∈(List.range n).filter fun i=>!D i:=List.mem_filter.2 ⟨List.mem_range.2 hi,by simp[hd]⟩
  rw[this] at hm;cases hm
theorem zTh {n:Nat} {D D':Nat->Bool} {i:Nat} (hi:i<n) (hDi:D i=false) (hD':∀m,D' m=(D m||decide (m=i))):left n D=left n D'+1:=by
 unfold left
 have key:∀l:List Nat,l.Nodup->(l.filter fun j=>!D j).length=(l.filter fun j=>!D' j).length+(if i∈l then 1 else 0):=by
  intro l hl
  induction l with
  | nil=>rfl
  | cons x r ih =>
   obtain⟨h1,h2⟩:=List.nodup_cons.1 hl;have ih:=ih h2
   by_cases e:x=i
   ·subst e
    have e1:(!D x)=true:=by rw[hDi];rfl
    have e2:¬(!D' x)=true:=by rw[hD'];simp
    rw[List.filter_cons_of_pos (p:=fun j=>!D j) e1,List.filter_cons_of_neg (p:=fun j=>!D' j) e2,List.length_cons,ih,if_neg h1,if_pos (List.mem_cons_self ..)]
   ·have e3:(!D' x)=(!D x):=by rw[hD'];simp[e]
    have e4:(i∈x::r)↔i∈r:=by simp[Ne.symm e]
    simp only[List.filter_cons,e3,e4];split
    ·simp only[List.length_cons,ih];omega
    ·exact ih
 have:=key (List.range n) List.nodup_range
 rw[if_pos (List.mem_range.2 hi)] at this;exact this
theorem zZz (C:CfgOK P cfg) (K:jP P call) (hI:∀f vs s id,call.i f vs s id=none) (Q:Calm call cfg ops.toList base st val acc act) {F:Fix} (hb:F.b0<=base) (hd:∀x∈ops.toList,zHa F.n x=true) {R:Exit->Act->World->Prop}
  (hR:∀a w,(∃D:Nat->Bool,(∀i,i<ops.toList.length->D i=true)/\DInv F ops.toList base st acc D a w)->R .normal a w):∀(fuel:Nat) (listed:Array Bool) (a:Act) (w:World),listed.size=ops.size ->
  (∀j o,listed.getD j false=true->ops.toList[j]? = some o->∀e∈o.after.toList,Region.binds .any e=true->listed.getD e.on false=true)->left ops.size (fun i=>listed.getD i false)=fuel ->
  DInv F ops.toList base st acc (fun i=>listed.getD i false) a w->wpAny P .any ops R fuel listed a w:=by
 have hlen:ops.toList.length=ops.size:=by simp
 have bool_get:∀(listed:Array Bool),listed.size=ops.size->∀j,j<ops.size->listed.getD j true=listed.getD j false:=by
  intro l hs j hj;simp[Array.getD_eq_getD_getElem?,Array.getElem?_eq_getElem (show j<l.size by omega)]
 intro fuel
 induction fuel with
 | zero =>
  intro listed a w hs hcl hf I;have hall:=zVv hf;refine⟨?_,hR a w ⟨_,fun i hi=>hall i (by omega),I⟩⟩;apply List.eq_nil_iff_forall_not_mem.2;intro j hj;obtain⟨h1,o,h2,_⟩:=mem_ready.1 hj;have hjl:j<ops.size:=(Array.getElem?_eq_some_iff.1 h2).1;rw[bool_get listed hs j hjl,hall j hjl] at h1;cases h1
 | succ fuel ih =>
  intro listed a w hs hcl hf I;refine⟨fun hnil=>?_,fun i hi=>?_⟩
  ·-- some step is ready
   exfalso
   have hex:∃j,j<ops.size/\listed.getD j false=false:=by
    by_cases h:∃j,j<ops.size/\listed.getD j false=false
    ·exact h
    ·exfalso
     have:left ops.size (fun i=>listed.getD i false)=0:=by
      unfold left;rw[List.length_eq_zero_iff];apply List.eq_nil_iff_forall_not_mem.2;intro j hj;obtain⟨h1,h2⟩:=List.mem_filter.1 hj;exact h ⟨j,List.mem_range.1 h1,by simpa using h2⟩
     omega
   have least:∀n,(∃j,j<=n/\j<ops.size/\listed.getD j false=false)->∃j,j<ops.size/\listed.getD j false=false/\∀k,k<j->listed.getD k false=true:=by
    intro n
    induction n with
    | zero =>
     rintro⟨j,h1,h2,h3⟩;exact⟨j,h2,h3,fun k hk=>by omega⟩
    | succ n ihn =>
     rintro⟨j,h1,h2,h3⟩
     by_cases hl:∃k,k<=n/\k<ops.size/\listed.getD k false=false
     ·exact ihn hl
     ·refine⟨j,h2,h3,fun k hk=>?_⟩
      cases hk':listed.getD k false with
      | true=>rfl
      | false=>exact absurd ⟨k,by omega,by omega,hk'⟩ hl
   obtain⟨j0,h1,h2⟩:=hex;obtain⟨j,h3,h4,h5⟩:=least j0 ⟨j0,Nat.le_refl _,h1,h2⟩;have hgj:ops[j]? = some ops[j]:=Array.getElem?_eq_getElem h3
   have hm:j∈Region.ready .any ops listed:=by
    refine mem_ready.2 ⟨by rw[bool_get listed hs j h3];exact h4,ops[j],hgj,fun e he hb=>?_⟩;exact h5 e.on (Q.edge (by rw[<-hgj];simp) (by simpa using he) hb)
   rw[hnil] at hm;cases hm
  ·obtain⟨h1,o,h2,h3⟩:=mem_ready.1 hi
   have hil:i<ops.size:=(Array.getElem?_eq_some_iff.1 h2).1;have hDi:listed.getD i false=false:=by rw[<-bool_get listed hs i hil];exact h1
   have hD':∀m,(listed.setIfInBounds i true).getD m false=(listed.getD m false||decide (m=i)):=by
    intro m
    by_cases e:m=i
    ·subst e
     simp[Array.getD_eq_getD_getElem?,Array.getElem?_setIfInBounds_self_of_lt (show m<listed.size by omega)]
    ·rw[getD_set_ne false (Ne.symm e)];simp[e]
   have hget:ops.toList[i]? = some o:=by rw[<-h2];simp
   have hrd:∀e∈o.after.toList,Region.binds .any e=true->listed.getD e.on false=true:=fun e he hb=>h3 e (by simpa using he) hb
   refine zTr C K hI Q hb hd (D:=fun i=>listed.getD i false) (D':=fun m=>(listed.setIfInBounds i true).getD m false) hcl (by omega) hget hDi hrd hD' I (fun a' w' I'=>?_);refine ih (listed.setIfInBounds i true) a' w' (by simpa using hs) ?_ ?_ I'
   ·intro j o' hj ho' e he hb
    rw[hD'] at hj ⊢;simp only[Bool.or_eq_true,decide_eq_true_eq] at hj ⊢;rcases hj with hj|hj
    ·exact .inl (hcl j o' hj ho' e he hb)
    ·subst hj
     rw[hget] at ho';cases ho';exact .inl (hrd e he hb)
   ·have:=zTh (n:=ops.size) (D:=fun i=>listed.getD i false) (D':=fun m=>(listed.setIfInBounds i true).getD m false) hil hDi hD'
    omega
theorem qFl (C:CfgOK P cfg) (hm:P.follows .mixedOrders=true) {call:Call} (K:jP P call):zDw P cfg call:=by
 intro F id ops s s' a w hd ht I he;obtain⟨sh,u,h,fp,S,hu,H,hb⟩:=I;have K':jP P call.noI:=fun f args v outs h=>K f args v outs h
 unfold xN at he;cases ho:zEg call cfg true ops.toList s.nxt 0 ops.toList s [] with
 | none=>rw[ho] at he;cases he
 | some r =>
  rw[ho] at he;simp only[Bool.true_eq_false,false_or,if_true] at he;split at he
  ·rename_i hcalm
   simp only[Option.some.injEq] at he;subst he;obtain⟨st,val,acc,act,Rn,e0,e1,etr⟩:=qAm ops.toList [] (s:=s) rfl ho;simp only[List.length_nil,Nat.zero_add] at Rn e0 e1 etr;rw[List.append_nil] at etr
   have Q:Calm call.noI cfg ops.toList s.nxt st val acc act:=by
    refine⟨Rn,fun i j h1 h2=>?_,ht,fun _ _ _ _=>rfl⟩;rw[etr] at hcalm;have hk:ops.toList.length=(ops.toList.length - 1)+1:=by omega
    rw[hk] at hcalm;simp only[Nat.add_sub_cancel] at hcalm;exact zVq (bits:=yQ ops.toList 0 ops.toList []) hcalm i j h1 (by omega)
   refine wp_region_any hm ?_
   have none_listed:∀i,(Array.replicate ops.size false).getD i false=false:=by
    intro i;rw[Array.getD_eq_getD_getElem?]
    by_cases hi:i<ops.size
    ·simp[hi]
    ·simp[hi]
   refine zZz C K' (fun _ _ _ _=>rfl) Q (F:=F) hb hd ?_ ops.size (Array.replicate ops.size false) a { w with drawn:=w.drawn+1 } (by simp) (fun j o hj=>by rw[none_listed j] at hj;cases hj) ?_ ?_
   ·rintro a1 w1 ⟨D,hD,σ,sh1,u1,h1,fp1,S1,H1,hu1,hen,hob⟩
    refine⟨rfl,sh1,u1,h1,fp1,S1.same (fun t=>?_) (fun q=>?_),fun q hq=>?_,H1,(by show F.b0<=s.nxt+32 * ops.toList.length;omega)⟩
    ·rw[hen t,zUw (c:=fun m=>zO (st m).env t) (fun m hm hw=>(Q.step hm).2.2 t hw) hD,e1]
    ·rw[hob q,zUw (c:=fun m=>zO (st m).obs q) (fun m hm hw=>(Q.step hm).1 q hw) hD,e1]
    ·show q<s.nxt+32 * ops.toList.length
     rcases hu1 q hq with hq|⟨i,h1,_,_,h4⟩
     ·omega
     ·omega
   ·unfold left
    have:((List.range ops.size).filter fun i=>!(Array.replicate ops.size false).getD i false)=List.range ops.size:=by
     apply List.filter_eq_self.2;intro i _;rw[none_listed i];rfl
    rw[this];simp
   ·refine⟨s,sh,u,h,fp,?_,H,fun q hq=>.inl (hu q hq),fun t=>?_,fun q=>?_⟩
    ·refine⟨⟨S.size.sz,S.size.os,S.size.out⟩,S.old,?_,S.own,S.apart,S.shr,?_⟩
     ·intro o ob e
      obtain⟨k1,k2⟩:=S.obs o ob e;exact⟨k1,k2.keep (show Goes u h sh w h sh { w with drawn:=w.drawn+1 } from⟨Hs.Le.refl u h,fun b hb=>⟨hb,rfl⟩⟩) (fun _ h=>h) k1 rfl (fun _ _=>rfl)⟩
     ·intro t v e
      obtain⟨k1,k2⟩:=S.env t v e;exact⟨k1,k2.keep (show Goes u h sh w h sh { w with drawn:=w.drawn+1 } from⟨Hs.Le.refl u h,fun b hb=>⟨hb,rfl⟩⟩) k1⟩
    ·rw[zQo (c:=fun m=>zO (st m).env t) (i:=0) (fun m hm hw=>(Q.step hm).2.2 t hw) (fun m hm=>by omega) (fun m _ _ _=>none_listed m) (Nat.zero_le _),e0]
    ·rw[zQo (c:=fun m=>zO (st m).obs q) (i:=0) (fun m hm hw=>(Q.step hm).1 q hw) (fun m hm=>by omega) (fun m _ _ _=>none_listed m) (Nat.zero_le _),e0]
  ·cases he
theorem zYr {ext:Call} (C:CfgOK P cfg) (B:CodeOKs cfg) (hm:P.follows .mixedOrders=true) (E:jP P ext):jP P (lim ext cfg).call :=
 zUo C B E (fun _ K=>qFl C hm K)
end
end Go.Proofs.YtbcgenkegnmkhaaGreat.Ev
namespace Go.Proofs.YtbcgenkegnmkhaaGreat.Ev
open Go
set_option linter.unusedSectionVars false
set_option linter.unusedSimpArgs false
def oneB:Value->Bool
 | .agg _=>false
 | .tuple _=>false
 | _=>true
mutual
def qK7 (P:Program):Nat->TypeId->Option V
 | 0,_=>none
 | n+1,t=>match P.underlying t with
  | some .bool=>some (.bool false)
  | some (.int k)=>some (.int k 0)
  | some (.slice e)=>match P.info? e with
   | none=>none
   | some i=>some (.lst true i.size [])
  | some (.struct fs)=>mp (qLz P n (fs.toList.map (·.type))) .agg
  | some (.pointer _)=>some .und
  | some (.func ..)=>some .und
  | some .string=>some .und
  | _=>none
def qLz (P:Program):Nat->List TypeId->Option (List V)
 | _,[]=>some []
 | 0,_=>none
 | n+1,t::r=>match qK7 P n t with
  | none=>none
  | some z=>mp (qLz P n r) fun l=>z::l
end
mutual
def eat:V->List Value->Option (List Value)
 | .int k n,c::r=>match c with
  | .int k' n'=>if k=k'/\n=n' then some r else none
  | _=>none
 | .bool b,c::r=>match c with
  | .bool b'=>if b=b' then some r else none
  | _=>none
 | .lst true _ [],c::r=>match c with
  | .slice none 0 0=>some r
  | _=>none
 | .und,c::r=>if oneB c=true then some r else none
 | .agg xs,cs=>qK3 xs cs
 | _,_=>none
def qK3:List V->List Value->Option (List Value)
 | [],cs=>some cs
 | x::q,cs=>match eat x cs with
  | none=>none
  | some r=>qK3 q r
end
mutual
theorem zOu {h:Hs} {sh:Nat->Prop} {w:World}:∀{v:V} {cs r:List Value},eat v cs=some r->∃d,cs=d++r/\Rel h sh w v d []/\v.mention=[]
 | .int k n,[],r,e=>by simp[eat] at e
 | .int k n,c::q,r,e=>by
  simp only[eat] at e;split at e
  ·split at e
   ·rename_i hc
    cases e;obtain⟨rfl,rfl⟩:=hc;exact⟨[_],rfl,by simp[Rel],rfl⟩
   ·cases e
  ·cases e
 | .bool b,[],r,e=>by simp[eat] at e
 | .bool b,c::q,r,e=>by
  simp only[eat] at e;split at e
  ·split at e
   ·rename_i hc
    cases e;subst hc;exact⟨[_],rfl,by simp[Rel],rfl⟩
   ·cases e
  ·cases e
 | .lst own sz xs,cs,r,e=>by
  cases own
  ·simp[eat] at e
  ·cases xs with
   | cons x q=>simp[eat] at e
   | nil =>
    cases cs with
    | nil=>simp[eat] at e
    | cons c q =>
     simp only[eat] at e;split at e
     ·cases e
      exact⟨[_],rfl,by simp[Rel],rfl⟩
     ·cases e
 | .und,[],r,e=>by simp[eat] at e
 | .und,c::q,r,e=>by
  simp only[eat] at e;split at e
  ·rename_i hc
   cases e;refine⟨[c],rfl,?_,rfl⟩;simp only[Rel];exact⟨trivial,c,rfl,by cases c<;>first|trivial|(simp[oneB] at hc)⟩
  ·cases e
 | .agg xs,cs,r,e=>by
  simp only[eat] at e;obtain⟨d,e1,r1,m1⟩:=zRg e;exact⟨d,e1,by simp only[Rel];exact r1,by simp only[V.mention];exact m1⟩
 | .str _,cs,r,e=>by simp[eat] at e
 | .emp _,cs,r,e=>by simp[eat] at e
 | .tup _,cs,r,e=>by simp[eat] at e
 | .ref ..,cs,r,e=>by simp[eat] at e
 | .plc ..,cs,r,e=>by simp[eat] at e
 | .ptr ..,cs,r,e=>by simp[eat] at e
 | .vptr _,cs,r,e=>by simp[eat] at e
 | .clo ..,cs,r,e=>by simp[eat] at e
 | .iol ..,cs,r,e=>by simp[eat] at e
 | .iop _,cs,r,e=>by simp[eat] at e
theorem zRg {h:Hs} {sh:Nat->Prop} {w:World}:∀{xs:List V} {cs r:List Value},qK3 xs cs=some r->∃d,cs=d++r/\RelA h sh w xs d []/\V.mentionL xs=[]
 | [],cs,r,e=>by simp only[qK3,Option.some.injEq] at e;subst e;exact⟨[],rfl,⟨rfl,rfl⟩,rfl⟩
 | x::q,cs,r,e=>by
  simp only[qK3] at e;split at e
  ·cases e
  ·rename_i r1 h1
   obtain⟨d1,e1,k1,m1⟩:=zOu h1;obtain⟨d2,e2,k2,m2⟩:=zRg e;refine⟨d1++d2,by rw[e1,e2,List.append_assoc],?_,by simp only[V.mentionL,m1,m2,List.append_nil]⟩;simp only[RelA];exact⟨d1,d2,[],[],rfl,rfl,k1,k2⟩
end
def zU0 (d:TypeDesc) (z:V):Bool :=
 match z with
 | .agg _=>match d with
  | .struct _=>true
  | _=>false
 | .bool _=>match d with
  | .bool=>true
  | _=>false
 | _=>!qMs d
def zP0 (zv:Value) (z:V):Bool :=
 match zv with
 | .agg _=>z.aggOf.isSome
 | _=>z.aggOf.isNone
def qAu (i:TypeInfo) (d:TypeDesc) (zv:Value) (z:V):Bool :=
 ((eat z zv.cells.toList).elim false List.isEmpty)&&decide (i.size=z.cells)&&decide (0<z.cells)&&decide (i.bytes<=65536)&&zU0 d z&&zP0 zv z
structure Tab where
 md:FuncId->List Md
 keep:FuncId->Nat->Option (List Nat)
 out:FuncId->Nat->Option (List Nat)
 nils:FuncId->Bool
 inB:FuncId->Bool
 plB:FuncId->Bool
 hsB:FuncId->Bool
 fsB:FuncId->Bool
 alR:FuncId->Nat->Nat
def fnOk (fn:Func):Bool :=
 (match fn.body with
 | none=>true
 | some c=>xX fn.ntmps c&&decide ((jC c).Nodup))&&!(fn.name=="runtime.NumGoroutine")
def qLj (P:Program) (fs:Array Field):Bool:=fs.toList.all fun f=>(P.info? f.type).isSome
def qCv (P:Program) (t:TypeId):Nat:=match P.underlying t with
 | some (.struct fs)=>if(!P.stoodInHeld t&&(!P.eqGuardType P.depth t&&(List.range fs.size).all fun i=>match fs.toList[i]? with
   | some f=>f.name != "_" && ((match P.underlying f.type with|some (.int _)=>true|_=>false)&&f.offset==i)
   | none=>false))=true then fs.size else 0
 | _=>0
def kI (P:Program) (T:Tab):Cfg where
 flds t:=match P.underlying t with
  | some (.struct fs)=>if qLj P fs=true then some (fs.toList.map fun f=>(f.offset,f.type)) else none
  | _=>none
 elem t:=match P.underlying t with
  | some (.slice e)=>some e
  | _=>none
 zero t:=match P.info? t with
  | none=>none
  | some i=>match P.underlying t with
   | none=>none
   | some d=>match i.zero with
    | none=>none
    | some zv=>match qK7 P 9 t with
     | none=>none
     | some z=>if qAu i d zv z=true then some z else none
 md:=T.md
 keep:=T.keep
 out:=T.out
 code f:=match P.funcs[f]? with
  | none=>none
  | some fn=>if fnOk fn=true then some fn else none
 nils:=T.nils
 ints t:=match P.underlying t with
  | some (.int k)=>some k
  | _=>none
 eqN t:=qCv P t
 strT t:=match P.underlying t with
  | some .string=>true
  | _=>false
 inB:=T.inB
 plB:=T.plB
 hsB:=T.hsB
 fsB:=T.fsB
 alR:=T.alR
theorem qIq (P:Program) (T:Tab):CfgOK P (kI P T) where
 zero t z hz:=by
  simp only[kI] at hz;split at hz
  ·cases hz
  ·rename_i i hi
   split at hz
   ·cases hz
   ·rename_i d hd
    split at hz
    ·cases hz
    ·rename_i zv hzv
     split at hz
     ·cases hz
     ·rename_i z' hz'
      split at hz
      ·rename_i hok
       cases hz;unfold qAu at hok;simp only[Bool.and_eq_true,decide_eq_true_eq] at hok;obtain⟨⟨⟨⟨⟨h1,h2⟩,h3⟩,h4⟩,h5⟩,h6⟩:=hok
       have he:eat z zv.cells.toList=some []:=by
        cases hx:eat z zv.cells.toList with
        | none=>rw[hx] at h1;cases h1
        | some r=>rw[hx] at h1;simp only[Option.elim_some,List.isEmpty_iff] at h1;rw[h1]
       refine⟨i,zv,d,hi,hzv,h2,h3,h4,hd,?_,?_,?_,?_,?_,?_⟩
       ·unfold zU0 at h5
        split at h5
        ·split at h5
         ·exact .inl ⟨⟨_,rfl⟩,rfl⟩
         ·cases h5
        ·split at h5
         ·exact .inr ⟨rfl,rfl⟩
         ·cases h5
        ·rename_i n1 n2
         refine .inr ⟨by simpa using h5,?_⟩;cases hz2:z.aggOf with
         | none=>rfl
         | some xs=>exact absurd (yJ hz2) (n1 xs)
       ·intro b hb
        subst hb;unfold zU0 at h5;simp only at h5;split at h5
        ·rfl
        ·cases h5
       ·exact(zOu (h:=⟨fun _=>none,fun _ _ _=>0,fun _=>0,fun _ _ _ _=>none,fun _ _ _ _=>0⟩) (sh:=fun _=>False) (w:=default) he).choose_spec.2.2
       ·intro h sh w
        obtain⟨d',e1,r1,_⟩:=zOu (h:=h) (sh:=sh) (w:=w) he;rw[e1,List.append_nil];exact r1
       ·intro ha
        unfold zP0 at h6;split at h6
        ·exact⟨_,rfl⟩
        ·rw[Option.isNone_iff_eq_none] at h6;rw[h6] at ha;cases ha
       ·intro ha
        unfold zP0 at h6;split at h6
        ·rw[ha] at h6;cases h6
        ·cases zv<;>first|rfl|(rename_i hn;exact absurd rfl (hn _))
      ·cases hz
 elem t e h:=by
  simp only[kI] at h;split at h
  ·rename_i hu;cases h;exact hu
  ·cases h
 flds t fs h:=by
  simp only[kI] at h;split at h
  ·rename_i fields hu
   split at h
   ·rename_i hf
    cases h;refine⟨fields,hu,rfl,fun f hf'=>?_⟩;unfold qLj at hf;rw[List.all_eq_true] at hf;exact Option.isSome_iff_exists.1 (hf f hf')
   ·cases h
  ·cases h
 code f fn h:=by
  simp only[kI] at h;split at h
  ·cases h
  ·rename_i fn' hf
   split at h
   ·cases h;exact hf
   ·cases h
 eqs t h:=by
  simp only[kI] at h ⊢;unfold qCv at h;split at h
  ·rename_i fs hu
   split at h
   ·rename_i hc
    simp only[Bool.and_eq_true,Bool.not_eq_true'] at hc;obtain⟨h1,h2,h3⟩:=hc;rw[List.all_eq_true] at h3;refine⟨fs,hu,?_,h1,h2,?_⟩
    ·unfold qCv
     rw[hu];simp only[];rw[if_pos];simp only[Bool.and_eq_true,Bool.not_eq_true'];exact⟨h1,h2,by rw[List.all_eq_true];exact h3⟩
    ·intro i f hf
     have hil:i<fs.size:=by have:=(List.getElem?_eq_some_iff.1 hf).1;simpa using this
     have:=h3 i (List.mem_range.2 hil)
     rw[hf] at this;simp only[Bool.and_eq_true,beq_iff_eq] at this;obtain⟨a,b,c⟩:=this;refine⟨a,?_,c⟩;split at b
     ·rename_i k hk;exact⟨k,hk⟩
     ·cases b
   ·omega
  ·omega
 str t h:=by
  simp only[kI] at h;split at h
  ·assumption
  ·cases h
 ints t k h:=by
  simp only[kI] at h;split at h
  ·rename_i hu;cases h;exact hu
  ·cases h
theorem qA1 (P:Program) (T:Tab):CodeOKs (kI P T) where
 ok f fn c h hb:=by
  simp only[kI] at h;split at h
  ·cases h
  ·split at h
   ·rename_i hk
    cases h;unfold fnOk at hk;rw[hb] at hk;simp only[Bool.and_eq_true,decide_eq_true_eq] at hk;exact hk.1
   ·cases h
 name f fn h:=by
  simp only[kI] at h;split at h
  ·cases h
  ·split at h
   ·rename_i hk
    cases h;unfold fnOk at hk;simp only[Bool.and_eq_true,Bool.not_eq_true'] at hk;exact hk.2
   ·cases h
def noExt:Call:=⟨fun _ _=>none,fun _ _ _ _=>none⟩
noncomputable abbrev Or (P:Program) (T:Tab):Orc:=lim noExt (kI P T)
theorem zYt {P:Program} (hm:P.follows .mixedOrders=true) (T:Tab):jP P (Or P T).call :=
 zYr (qIq P T) (qA1 P T) hm (fun f args v outs he=>by cases he)
theorem qBr {P:Program} {T:Tab} {f:FuncId} {args:List V} {x:V×List V} (h:vW (Or P T) (kI P T) f args=some x) (hn:T.nils f=false) (hh:T.hsB f=false):(Or P T).call f args=some x:=by
 refine zFn ?_;show zCa (Or P T) (kI P T) f _=some x;unfold zCa
 have:(kI P T).nils f=false:=hn
 have h2:(kI P T).hsB f=false:=hh;simp only[this,h2,Bool.false_eq_true,if_false,h,zJ]
theorem zZ7 {P:Program} {T:Tab} {f:FuncId} {args:List V} {x:V×List V} (h:vW (Or P T) (kI P T) f args=some x) (hn:T.nils f=false) (hh:T.hsB f=true) (hf:T.fsB f=false):(Or P T).call f args=some (x.1.half,x.2):=by
 refine zFn ?_;show zCa (Or P T) (kI P T) f _=_;unfold zCa
 have:(kI P T).nils f=false:=hn
 have h2:(kI P T).hsB f=true:=hh;have h3:(kI P T).fsB f=false:=hf;simp only[this,h2,h3,Bool.false_eq_true,if_false,if_true,h,zJ]
theorem zYv {P:Program} {T:Tab} {f:FuncId} {args:List V} {x:V×List V} (h:vW (Or P T) (kI P T) f args=some x) (hn:T.nils f=false) (hh:T.hsB f=true) (hf:T.fsB f=true):(Or P T).call f args=some (x.1.full,x.2):=by
 refine zFn ?_;show zCa (Or P T) (kI P T) f _=_;unfold zCa
 have:(kI P T).nils f=false:=hn
 have h2:(kI P T).hsB f=true:=hh;have h3:(kI P T).fsB f=true:=hf;simp only[this,h2,h3,Bool.false_eq_true,if_false,if_true,h,zJ]
theorem zO6 {P:Program} {T:Tab} {f:FuncId} {sz:Nat} {xs:List V} {x:V×List V} (hn:T.nils f=true) (h:xs≠[]->vW (Or P T) (kI P T) f [.lst false sz xs]=some x) (h1:xs=[]->vW (Or P T) (kI P T) f [.emp true]=some x) (h2:xs=[]->vW (Or P T) (kI P T) f [.emp false]=some x) :
  (Or P T).call f [.lst false sz xs]=some x:=by
 refine zFn ?_;show zCa (Or P T) (kI P T) f _=some x;unfold zCa
 have:(kI P T).nils f=true:=hn
 simp only[this,if_true]
 by_cases hx:xs=[]
 ·subst hx
  have e1:=h1 rfl;have e2:=h2 rfl;simp only[List.isEmpty_nil,if_true,e1,e2]
 ·have:xs.isEmpty=false:=by cases xs with|nil=>exact absurd rfl hx|cons a b=>rfl
  simp only[this,Bool.false_eq_true,if_false];exact h hx
theorem qM9 {P:Program} {T:Tab} {f:FuncId} (hp:T.plB f=false) {args:List V} {s:St} {id:Nat} {x:V×St} (h:zPj (Or P T).call (kI P T) f args s id=some x):(Or P T).call.i f args s id=some x:=qEh hp h
theorem qD7 {P:Program} {T:Tab} {fn:FuncId} {k:Nat} {s:St} {x:Ext×St} (h:zGd (Or P T) (kI P T) fn k s=some x):(Or P T).loop fn k s=some x:=qA4 h
end Go.Proofs.YtbcgenkegnmkhaaGreat.Ev
namespace Go.Proofs.YtbcgenkegnmkhaaGreat.Ev
open Go Go.ChangeShapes Go.WideShapes Go.ChangeAt Go.RowKit
set_option linter.unusedVariables false
set_option linter.unusedSectionVars false
def zKl (P:Program):Nat->TypeId->V->Prop
 | 0,_,_=>False
 | n+1,t,v=>match P.underlying t with
  | some .bool=>∃b,v = .bool b
  | some (.int k)=>∃m,v = .int k m/\(Lit.int k m).wf=true
  | some (.slice e)=>∃xs,v = .lst false 0 xs/\xs.length<=140737488351232/\∀x∈xs,zKl P n e x
  | some (.struct fs)=>∃xs,v = .agg xs/\xs.length=fs.size/\∀(i:Nat) (f:Field) x,fs.toList[i]? = some f->xs[i]? = some x->zKl P n f.type x
  | _=>False
def qI9 (P:Program):Nat->List Field->Nat->Bool
 | off,[],tot=>decide (off=tot)
 | off,f::r,tot=>decide (f.offset=off)&&qI9 P (off+P.cellsOf f.type) r tot
def zTj (P:Program):Nat->TypeId->Bool
 | 0,_=>false
 | n+1,t=>match P.underlying t with
  | some .bool=>true
  | some (.int _)=>true
  | some (.slice e)=>decide (0<P.cellsOf e)&&decide (0<P.bytesOf e)&&zTj P n e
  | some (.struct fs)=>qI9 P 0 fs.toList (P.cellsOf t)&&fs.toList.all fun f=>zTj P n f.type
  | _=>false
theorem zA5 {α β:Type} {f:α->Option β} {a:α} {l:List α} {r:List β} (h:(a::l).mapM f=some r):∃b s,f a=some b/\l.mapM f=some s/\r=b::s:=by
 rw[List.mapM_cons] at h;cases hf:f a with
 | none=>rw[hf] at h;cases h
 | some b =>
  rw[hf] at h;simp only[Option.bind_eq_bind,Option.bind_some] at h;cases hl:l.mapM f with
  | none=>rw[hl] at h;cases h
  | some s =>
   rw[hl] at h;simp only[Option.bind_some,Option.pure_def,Option.some.injEq] at h;exact⟨b,s,rfl,rfl,h.symm⟩
section
variable {H : Type} {enc : TypeId × Value->H} {P : Program} {w : World} {h : Hs}
def qDn (w:World) (b:Nat):Prop:=b<w.heap.size
theorem zA8 {β:Type} {f:Nat->Option β}:∀{n s:Nat} {r:List β},(List.range' s n).mapM f=some r->r.length=n/\∀j v,r[j]? = some v->f (s+j)=some v
 | 0,s,r,e=>by
  simp only[List.range'_zero,List.mapM_nil,Option.pure_def,Option.some.injEq] at e;subst e;exact⟨rfl,fun j v hj=>(by cases hj)⟩
 | n+1,s,r,e=>by
  rw[List.range'_succ] at e;obtain⟨b,q,h1,h2,rfl⟩:=zA5 e;obtain⟨h3,h4⟩:=zA8 h2;refine⟨by simp[h3],fun j v hj=>?_⟩;cases j with
  | zero=>simp only[List.getElem?_cons_zero,Option.some.injEq] at hj;subst hj;exact h1
  | succ j =>
   simp only[List.getElem?_cons_succ] at hj;rw[<-Nat.add_assoc,Nat.add_right_comm];exact h4 j v hj
theorem zUe {a:Addr} {v:Value} (hc:w.cell? a=some v):a.spot=none/\a.block<w.heap.size:=by
 unfold World.cell? at hc;split at hc
 ·rename_i c e f hh
  split at hc
  ·cases hc
  ·rename_i hs
   exact⟨by simpa using hs,(Array.getElem?_eq_some_iff.1 hh).1⟩
 ·cases hc
theorem zZ9 {b off n:Nat} {cs:List Value} (hc:w.cells? 0 ⟨b,off,none⟩ n=some cs):cs.length=n/\At w b off cs:=by
 unfold World.cells? at hc;rw[if_pos (Nat.zero_le _),List.range_eq_range'] at hc;obtain⟨h1,h2⟩:=zA8 hc;refine⟨h1,fun i v hi=>?_⟩
 have:=h2 i v hi
 rw[yW] at this
 simpa using this
theorem zR5 {fuel n:Nat} {e:TypeId} {b off c:Nat} (hc:c=P.cellsOf e)
  (ih:∀cs d ps,DataW.trod enc P w 0 (fun _=>true) true fuel e cs=some (d,ps)->(∀m∈d.weights P e,m<=reachBytes)->∃v,zKl P n e v/\v.mention=[]/\Rel h (qDn w) w v cs []) :
  ∀{m s:Nat} {r:List (DataW H×List MemPlace)},(List.range' s m).mapM (fun i=>(w.cells? 0 (Addr.add ⟨b,off,none⟩ (i * c)) c).bind (DataW.trod enc P w 0 (fun _=>true) true fuel e))=some r ->
   (∀m∈DataW.weightsAll P e (r.map (·.1)),m<=reachBytes)->∃xs ds,xs.length=m/\r.length=m/\(∀x∈xs,zKl P n e x)/\RelL h (qDn w) w c xs ds []/\At w b (off+s * c) ds
 | 0,s,r,e,_=>by
  simp only[List.range'_zero,List.mapM_nil,Option.pure_def,Option.some.injEq] at e;subst e;exact⟨[],[],rfl,rfl,fun x hx=>(by cases hx),⟨rfl,rfl⟩,fun i v hi=>by cases hi⟩
 | m+1,s,r,e,hw=>by
  rw[List.range'_succ] at e;obtain⟨x,q,h1,h2,rfl⟩:=zA5 e;simp only[List.map_cons,DataW.weightsAll,List.mem_append] at hw;obtain⟨xs,ds,l1,l2,l3,l4,l5⟩:=zR5 hc ih h2 (fun k hk=>hw k (.inr hk));cases hcs:w.cells? 0 (Addr.add ⟨b,off,none⟩ (s * c)) c with
  | none=>rw[hcs] at h1;cases h1
  | some cs =>
   rw[hcs,Option.bind_some] at h1;rw[yW] at hcs;obtain⟨k1,k2⟩:=zZ9 hcs;obtain⟨v,v1,v2,v3⟩:=ih cs x.1 x.2 h1 (fun k hk=>hw k (.inl hk));refine⟨v::xs,cs++ds,by simp[l1],by simp[l2],?_,?_,?_⟩
   ·intro y hy
    rcases List.mem_cons.1 hy with rfl|hy
    ·exact v1
    ·exact l3 y hy
   ·simp only[RelL]
    exact⟨cs,ds,[],[],rfl,rfl,k1,v2,v3,l4⟩
   ·rw[At.append]
    refine⟨k2,?_⟩;rw[k1,Nat.add_assoc,<- Nat.succ_mul];exact l5
theorem zPv {fuel n:Nat} {cs:List Value} {tot:Nat} (hlen:cs.length=tot)
  (ih:∀t,zTj P n t=true->∀cs d ps,DataW.trod enc P w 0 (fun _=>true) true fuel t cs=some (d,ps)->(∀m∈d.weights P t,m<=reachBytes)->∃v,zKl P n t v/\v.mention=[]/\Rel h (qDn w) w v cs []) :
  ∀{fs:List Field} {off:Nat} {r:List (DataW H×List MemPlace)},qI9 P off fs tot=true->(fs.all fun f=>zTj P n f.type)=true->fs.mapM (fun f=>DataW.trod enc P w 0 (fun _=>true) true fuel f.type ((cs.drop f.offset).take (P.cellsOf f.type)))=some r ->
   (∀m∈DataW.weightsEach P (fs.map (·.type)) (r.map (·.1)),m<=reachBytes)->∃xs,xs.length=fs.length/\(∀(i:Nat) (f:Field) x,fs[i]? = some f->xs[i]? = some x->zKl P n f.type x)/\V.mentionL xs=[]/\RelA h (qDn w) w xs (cs.drop off) []
 | [],off,r,hl,_,e,_=>by
  simp only[qI9,decide_eq_true_eq] at hl;subst hl;exact⟨[],rfl,fun i f x hi=>(by cases hi),rfl,by simp only[RelA];exact⟨by rw[<-hlen,List.drop_length],trivial⟩⟩
 | f::fs,off,r,hl,ha,e,hw=>by
  simp only[qI9,Bool.and_eq_true,decide_eq_true_eq] at hl;obtain⟨rfl,hl⟩:=hl;rw[List.all_cons,Bool.and_eq_true] at ha;obtain⟨x,q,h1,h2,rfl⟩:=zA5 e;simp only[List.map_cons,DataW.weightsEach,List.mem_append] at hw;obtain⟨v,v1,v2,v3⟩:=ih f.type ha.1 _ x.1 x.2 h1 (fun k hk=>hw k (.inl hk));obtain⟨xs,l1,l2,l3,l4⟩:=zPv hlen ih hl ha.2 h2 (fun k hk=>hw k (.inr hk));refine⟨v::xs,by simp[l1],?_,by simp only[V.mentionL,v2,l3,List.append_nil],?_⟩
  ·intro i g y hi hy
   cases i with
   | zero =>
    simp only[List.getElem?_cons_zero,Option.some.injEq] at hi hy;subst hi;subst hy;exact v1
   | succ i =>
    simp only[List.getElem?_cons_succ] at hi hy;exact l2 i g y hi hy
  ·simp only[RelA]
   refine⟨_,_,[],[],?_,rfl,v3,l4⟩;rw[<-List.drop_drop,List.take_append_drop]
theorem zK9:∀(fuel n:Nat) (t:TypeId),zTj P n t=true->∀cs d ps,DataW.trod enc P w 0 (fun _=>true) true fuel t cs=some (d,ps)->(∀m∈d.weights P t,m<=reachBytes)->∃v,zKl P n t v/\v.mention=[]/\Rel h (qDn w) w v cs []
 | 0,_,_,_,_,_,_,e,_=>by simp[DataW.trod] at e
 | _+1,0,_,hl,_,_,_,_,_=>by simp[zTj] at hl
 | fuel+1,n+1,t,hl,cs,d,ps,e,hw=>by
  unfold zTj at hl;unfold DataW.trod at e;unfold zKl;cases hu:P.underlying t with
  | none=>rw[hu] at hl;cases hl
  | some u =>
   rw[hu] at hl e;cases u with
   | bool =>
    simp only at e ⊢;split at e
    all_goals first
     | (rename_i hh;cases hh;done)
     | (cases e;done)
     | skip
    rename_i b hh;cases hh;cases e
    exact⟨.bool b,⟨_,rfl⟩,rfl,by simp[Rel]⟩
   | int k =>
    simp only at e ⊢;split at e
    all_goals first
     | (rename_i hh;cases hh;done)
     | (cases e;done)
     | skip
    rename_i hh;cases hh
    split at e
    ·rename_i h3
     obtain⟨rfl,h4⟩:=h3;cases e;exact⟨.int _ _,⟨_,rfl,h4⟩,rfl,by simp[Rel]⟩
    ·cases e
   | slice el =>
    simp only[Bool.and_eq_true,decide_eq_true_eq] at hl;simp only at e ⊢;split at e
    all_goals first
     | (rename_i hh;cases hh;done)
     | (cases e;done)
     | skip
    ·rename_i hh
     cases hh;cases e;exact⟨.lst false 0 [],⟨[],rfl,by simp,fun x hx=>by cases hx⟩,rfl,by simp only[Rel,Bool.false_eq_true,if_false];exact⟨trivial,none,0,rfl,Nat.le_refl _,.inl ⟨trivial,by simp⟩⟩⟩
    ·rename_i e' a len cap hh
     cases hh;split at e
     ·rename_i h3
      obtain⟨_,h4,h5⟩:=h3;cases hm:(List.range len).mapM (fun i=>(w.cells? 0 (a.add (i * P.cellsOf el)) (P.cellsOf el)).bind (DataW.trod enc P w 0 (fun _=>true) true fuel el)) with
      | none=>simp only[hm] at e;cases e
      | some r =>
       simp only[hm,Option.bind_some,if_true] at e;cases hr:(List.range (cap - len)).mapM (fun j=>(w.cells? 0 (a.add ((len+j) * P.cellsOf el)) (P.cellsOf el)).bind (DataW.trod enc P w 0 (fun _=>true) true fuel el)) with
       | none=>simp only[hr] at e;cases e
       | some q =>
        simp only[hr,Option.map_some,Option.some.injEq,Prod.mk.injEq] at e;obtain⟨rfl,_⟩:=e;simp only[DataW.weights,hu,List.mem_cons,List.mem_append] at hw
        have hsz:len<=140737488351232:=by
         have h6:=hw _ (.inl rfl);rw[List.range_eq_range'] at hm;have h7:=(zA8 hm).1;simp only[List.length_map,h7] at h6;have h8:(len+q.length) * 1<=(len+q.length) * P.bytesOf el:=Nat.mul_le_mul_left _ hl.1.2
         have:reachBytes=140737488351232:=rfl
         omega
        by_cases hlen:len=0
        ·subst hlen
         exact⟨.lst false 0 [],⟨[],rfl,by simp,fun x hx=>by cases hx⟩,rfl,by simp only[Rel,Bool.false_eq_true,if_false];exact⟨trivial,_,cap,rfl,Nat.zero_le _,.inl ⟨trivial,by simp⟩⟩⟩
        ·rw[List.range_eq_range'] at hm
         have hspot:a.spot=none/\a.block<w.heap.size:=by
          obtain⟨k1,k2⟩:=zA8 hm;cases r with
          | nil=>simp at k1;omega
          | cons r0 rs =>
           have h6:=k2 0 r0 rfl;cases hc:w.cells? 0 (a.add ((0+0) * P.cellsOf el)) (P.cellsOf el) with
           | none=>rw[hc] at h6;cases h6
           | some c0 =>
            unfold World.cells? at hc;rw[if_pos (Nat.zero_le _),List.range_eq_range'] at hc;obtain⟨j1,j2⟩:=zA8 hc;cases c0 with
            | nil=>simp at j1;omega
            | cons y ys =>
             have h7:=j2 0 y rfl;have h8:(a.add ((0+0) * P.cellsOf el)).add (0+0)=a:=by simp[Addr.add]
             rw[h8] at h7;exact zUe h7
         obtain⟨b,off,sp⟩:=a;obtain⟨hsp,hb⟩:=hspot;simp only at hsp hb;subst hsp;obtain⟨xs,ds,l1,l2,l3,l4,l5⟩:=zR5 (h:=h) rfl (fun cs d ps e1 e2=>zK9 fuel n el hl.2 cs d ps e1 e2) hm (fun k hk=>hw k (.inr (.inl hk)));refine⟨.lst false 0 xs,⟨xs,rfl,by omega,l3⟩,rfl,?_⟩;simp only[Rel,Bool.false_eq_true,if_false];refine⟨trivial,_,cap,by rw[l1],by omega,.inr ⟨b,off,_,ds,rfl,hb,?_,l4⟩⟩
         simpa using l5
     ·cases e
   | struct fs =>
    simp only[Bool.and_eq_true] at hl;simp only at e ⊢;split at e
    all_goals first
     | (rename_i hh;cases hh;done)
     | (cases e;done)
     | skip
    ·rename_i h3
     ·skip
      cases hm:fs.toList.mapM (fun f=>DataW.trod enc P w 0 (fun _=>true) true fuel f.type ((cs.drop f.offset).take (P.cellsOf f.type))) with
      | none=>simp only[hm] at e;cases e
      | some r =>
       simp only[hm,Option.map_some,Option.some.injEq,Prod.mk.injEq] at e;obtain⟨rfl,_⟩:=e;simp only[DataW.weights,hu] at hw;obtain⟨xs,l1,l2,l3,l4⟩:=zPv (h:=h) h3 (fun t ht cs d ps e1 e2=>zK9 fuel n t ht cs d ps e1 e2) hl.1 hl.2 hm hw;refine⟨.agg xs,⟨xs,rfl,by simpa using l1,l2⟩,by simp only[V.mention];exact l3,?_⟩;simp only[Rel]
       simpa using l4
   | _=>cases hl
end
theorem zSe {P:Program} {w:World} {r:Reach} {b:Nat} {t:TypeId} {x:Value} (hok:Value.okWide P w r b t x):(∃fs,P.underlying t=some (.struct fs)/\∃cs,x = .agg cs)\/(∀fs,P.underlying t≠some (.struct fs))/\((∃n e,P.underlying t=some (.array n e))\/x.cells=#[x]):=by
 unfold Value.okWide at hok;split at hok
 ·rename_i fs hu
  obtain⟨cs,e,_⟩:=hok;exact .inl ⟨fs,hu,cs,e⟩
 ·rename_i n e hu
  exact .inr ⟨fun fs hf=>(by rw[hu] at hf;cases hf),.inl ⟨n,e,hu⟩⟩
 ·rename_i h1 h2
  refine .inr ⟨fun fs hf=>h1 fs hf,.inr ?_⟩;cases x with
  | agg cs =>
   exfalso
   unfold Cell.okWide at hok;split at hok
   all_goals first
    | (rename_i hx;cases hx;done)
    | skip
   unfold Cell.ok at hok;split at hok
   all_goals first
    | (rename_i hx;cases hx;done)
    | exact hok
  | _=>rfl
def hasTs (P:Program):List TypeId->List V->Prop
 | [],vs=>vs=[]
 | t::ts,vs=>∃v q,vs=v::q/\zKl P 12 t v/\hasTs P ts q
section
variable {H : Type} {enc : TypeId × Value->H} {P : Program} {w : World} {h : Hs}
theorem qDo {r:Reach} {b:Nat} {t:TypeId} {x:Value} {d:DataW H} {ps:List MemPlace} (hl:zTj P 12 t=true) (hok:Value.okWide P w r b t x) (hd:DataW.Trod enc P w 0 (fun _=>true) true t x d ps) (hw:∀m∈d.weights P t,m<=reachBytes) :
  ∃v,zKl P 12 t v/\ArgR h (qDn w) w v x []:=by
 obtain⟨fuel,hd⟩:=hd;obtain⟨v,h1,h2,h3⟩:=zK9 (h:=h) fuel 12 t hl _ d ps hd hw;refine⟨v,h1,?_⟩
 have hone:(∃fs,P.underlying t=some (.struct fs)/\∃cs,x = .agg cs)\/(∀fs,P.underlying t≠some (.struct fs))/\x.cells=#[x]:=by
  rcases zSe hok with h4|⟨h4,h5|h5⟩
  ·exact .inl h4
  ·obtain⟨n,e,h5⟩:=h5
   unfold zTj at hl;rw[h5] at hl;cases hl
  ·exact .inr ⟨h4,h5⟩
 unfold zKl at h1;rcases hone with⟨fs,h4,cs,rfl⟩|⟨h4,h5⟩
 ·rw[h4] at h1
  obtain⟨xs,rfl,_⟩:=h1;simp only[ArgR];refine⟨trivial,h2,by simp,rfl,?_⟩;simp only[RelS,RelS0];simp only[Rel] at h3;exact⟨cs,rfl,h3⟩
 ·rw[h5] at h3
  split at h1
  ·obtain⟨b,rfl⟩:=h1
   exact⟨rfl,h2,by simp,rfl,h3⟩
  ·obtain⟨m,rfl,_⟩:=h1
   exact⟨rfl,h2,by simp,rfl,h3⟩
  ·obtain⟨xs,rfl,_⟩:=h1
   exact⟨rfl,h2,by simp,rfl,h3⟩
  ·rename_i fs hu
   exact absurd hu (h4 fs)
  ·cases h1
theorem zQl {r:Reach} {b:Nat}:∀{ts:List TypeId} {xs:List Value} {ds:List (DataW H)} {ps:List MemPlace},(ts.all fun t=>zTj P 12 t)=true->DataW.TrodAll enc P w 0 (fun _=>true) true ts xs ds ps ->
  (∀(j:Nat) t v,ts[j]? = some t->xs[j]? = some v->Value.okWide P w r b t v)->(∀m∈DataW.weightsEach P ts ds,m<=reachBytes)->∃vs,hasTs P ts vs/\ArgsR h (qDn w) w vs xs []
 | [],xs,ds,ps,_,hd,_,_=>by
  obtain⟨rfl,_,_⟩:=trodAll_nil hd;exact⟨[],rfl,rfl,rfl⟩
 | t::ts,xs,ds,ps,hl,hd,hok,hw=>by
  rw[List.all_cons,Bool.and_eq_true] at hl;obtain⟨x,q,d,dq,p1,p2,rfl,rfl,rfl,h1,h2⟩:=trodAll_cons hd;simp only[DataW.weightsEach,List.mem_append] at hw;obtain⟨v,v1,v2⟩:=qDo (h:=h) hl.1 (hok 0 t x rfl rfl) h1 (fun m hm=>hw m (.inl hm));obtain⟨vs,l1,l2⟩:=zQl hl.2 h2 (fun j t' v' e1 e2=>hok (j+1) t' v' (by simpa using e1) (by simpa using e2)) (fun m hm=>hw m (.inr hm));exact⟨v::vs,⟨v,vs,rfl,v1,l1⟩,x,q,[],[],rfl,rfl,v2,l2⟩
theorem zM1 (hlo:laidOutB P=true) {W':World} (hb:∀b,b<w.heap.size->W'.heap[b]? = w.heap[b]?):∀{ts:List TypeId} {xs:List Value} {ds:List (DataW H)} {ps:List MemPlace},(ts.all fun t=>P.readableRec t&&decide (t<P.types.size))=true->DataW.TrodAll enc P w 0 (fun _=>true) true ts xs ds ps ->
  DataW.TrodAll enc P W' 0 (fun b=>decide (b<w.heap.size)) true ts xs ds ps
 | [],xs,ds,ps,_,hd=>by
  obtain⟨rfl,rfl,rfl⟩:=trodAll_nil hd;exact trodAll_mk0
 | t::ts,xs,ds,ps,hl,hd=>by
  rw[List.all_cons,Bool.and_eq_true] at hl;simp only[Bool.and_eq_true,decide_eq_true_eq] at hl;obtain⟨x,q,d,dq,p1,p2,rfl,rfl,rfl,h1,h2⟩:=trodAll_cons hd
  have hlt:∀y∈p1,y.block<w.heap.size:=by
   obtain⟨m,hm⟩:=h1;exact DataW.trod_lt m _ _ _ hm
  have hsame:∀y∈p1,w.sameAt W' y:=by
   intro y hy;cases y with
   | cell b o=>exact World.cell?_of_block (w:=w) (hb b (hlt _ hy))
   | map b=>exact hb b (hlt _ hy)
  exact trodAll_cons_mk (WideElems.Trod_stays hlo hl.1.1 hl.1.2 h1 hsame (fun y hy=>by simpa using hlt y hy)) (zM1 hlo hb hl.2 h2)
theorem law_calls {call:Call} (hc:jP P call) {f:FuncId} {fn:Func} {s:ChangeSpec} (hs:s.vars=[]) (hsp:∀(K:Type) (ds:List (DataW K)),ds.length=fn.params.size->s.fn K ds={ results:=[.lit (.bool true)],args:=ds })
  {tb:TypeId} (hres:fn.resultTypes=#[tb]) (htb:P.underlying tb=some .bool) (hlo:laidOutB P=true) (hlay:(fn.params.toList.all fun t=>zTj P 12 t)=true) (hread:(fn.params.toList.all fun t=>P.readableRec t&&decide (t<P.types.size))=true)
  (H1:∀vs,hasTs P fn.params.toList vs->call f vs=some (.bool true,[])) (W:World) (base:Nat) (args:Array Value) (ds gs:List (DataW H)) (before:List MemPlace)
  (hval:∀(j:Nat) t v,fn.params[j]? = some t->args[j]? = some v->Value.okWide P W .any base t v) (hW:DataW.Whole enc P fn.params.toList s.vars false W args.toList ds gs before)
  (hsz:(DataW.weightsEach P (fn.params.toList++s.plain.varTypes P) (ds++gs)).all (·<=reachBytes)=true) :
  Calls P f args W fun e W'=>∃v,e = .returned v/\s.post enc P fn false true false false W args v W':=by
 have hW':=hW;obtain⟨p,q,hA,hV,rfl,hfz,hnd⟩:=hW
 have hlen:∀{ts:List TypeId} {xs:List Value} {ds:List (DataW H)} {ps:List MemPlace},DataW.TrodAll enc P W 0 (fun _=>true) true ts xs ds ps->ds.length=ts.length:=by
  intro ts
  induction ts with
  | nil=>intro xs ds ps hd;obtain⟨_,rfl,_⟩:=trodAll_nil hd;rfl
  | cons t ts ih =>
   intro xs ds ps hd;obtain⟨x,q,d,dq,p1,p2,rfl,rfl,rfl,h1,h2⟩:=trodAll_cons hd;simp[ih h2]
 have hg:gs=[]/\q=[]:=trodVars_none (by rw[hs] at hV;exact hV);obtain⟨rfl,rfl⟩:=hg;have hv:s.plain.varTypes P=[]:=by simp[ChangeSpec.plain,DataSpec.varTypes,hs]
 rw[hv,List.append_nil,List.append_nil] at hsz;obtain⟨vs,k1,k2⟩:=zQl (h:=⟨fun _=>none,fun _ _ _=>0,fun _=>0,fun _ _ _ _=>none,fun _ _ _ _=>0⟩) hlay hA (fun j t v e1 e2=>hval j t v (by simpa using e1) (by simpa using e2)) (fun m hm=>by simpa using List.all_eq_true.1 hsz m hm);have key:=(hc f vs _ _ (H1 vs k1)).2 _ _ W args.toList [] k2 List.nodup_nil (fun b hb=>by cases hb) (fun b hb=>hb);rw[Array.toArray_toList] at key;refine key.mono fun e W' ⟨x,he,h',sh',fr,fo,L⟩=>?_
 subst he;refine⟨_,rfl,ds,[],p++[],?_⟩
 have hx:x = .bool true:=by
  have:=L.ret
  simp only[zO1,zT8,Rel] at this
  have:=this.2.1
  simpa using this
 subst hx;have hds:=hsp H ds (by rw[hlen hA];simp);refine⟨[],p,[],hW',?_,?_,?_,⟨L.size.os,L.size.out,fun i hi=>?_⟩,fun h=>by cases h⟩
 ·rw[List.append_nil,hds,hres]
  exact trodAll_mk1 (shut_bool htb _)
 ·rw[List.append_nil,hds]
  exact zM1 hlo (fun b hb=>L.old b hb (by simp)) hread hA
 ·rw[List.append_nil,hds,hs]
  exact rfl
 ·rw[L.old i hi (by simp)]
  split<;>simp_all
end
section
variable {P : Program} {n : Nat} {t e : TypeId} {v : V}
theorem qBz {k:IntKind} (hu:P.underlying t=some (.int k)) (h:zKl P (n+1) t v):∃m,v = .int k m/\k.min<=m/\m<=k.max:=by
 unfold zKl at h;rw[hu] at h;obtain⟨m,e,hw⟩:=h;refine⟨m,e,?_⟩;unfold Lit.wf at hw;simp only[IntKind.has,Bool.and_eq_true,decide_eq_true_eq] at hw;exact hw
theorem zVs (hu:P.underlying t=some (.slice e)) (h:zKl P (n+1) t v):∃xs,v = .lst false 0 xs/\xs.length<=140737488351232/\∀x∈xs,zKl P n e x:=by
 unfold zKl at h;rw[hu] at h;exact h
theorem zQb {α:Type} {f:α->V} {p:α->Prop}:∀{xs:List V},(∀x∈xs,∃a,x=f a/\p a)->∃l:List α,xs=l.map f/\∀a∈l,p a
 | [],_=>⟨[],rfl,fun a ha=>(by cases ha)⟩
 | x::r,h=>by
  obtain⟨a,e,ha⟩:=h x (List.mem_cons_self ..);obtain⟨l,e2,hl⟩:=zQb (fun y hy=>h y (List.mem_cons_of_mem _ hy));exact⟨a::l,by rw[e,e2];rfl,fun b hb=>by rcases List.mem_cons.1 hb with rfl|hb;exact ha;exact hl b hb⟩
end
end Go.Proofs.YtbcgenkegnmkhaaGreat.Ev
namespace Go.Proofs.YtbcgenkegnmkhaaGreat.Ev
open Go
set_option linter.unusedSectionVars false
set_option linter.unusedSimpArgs false
def wpC (orc:Orc) (cfg:Cfg) (fn:FuncId) (c:Code) (s:St) (Q:Ext->St->Prop):Prop:=∃r,jD orc cfg fn c s=some r/\Q r.1 r.2
def wpO (call:Call) (cfg:Cfg) (draw:Bool) (all:List Oper) (base i:Nat) (rest:List Oper) (s:St) (tr:List (List (Nat×Acc))) (Q:St->List (List (Nat×Acc))->Prop):Prop:=∃r,zEg call cfg draw all base i rest s tr=some r/\Q r.1 r.2
def qK4 (orc:Orc) (cfg:Cfg) (fn:FuncId) (b:Code) (Q:Ext->St->Prop):Ext->St->Prop
 | .normal,s=>wpC orc cfg fn b s Q
 | e,s=>Q e s
def qHb (id:Nat) (Q:Ext->St->Prop):Ext->St->Prop
 | .exit i,s=>if i=id then Q .normal s else Q (.exit i) s
 | e,s=>Q e s
def qK5 (Q:Ext->St->Prop) (s:St) (_:List (List (Nat×Acc))):Prop:=Q .normal s
def endD (Q:Ext->St->Prop) (n:Nat) (bits:List Nat) (k:Nat) (s:St) (tr:List (List (Nat×Acc))):Prop:=zMs bits k tr=true/\Q .normal ⟨s.env,s.obs,n⟩
section
variable {orc : Orc} {cfg : Cfg} {fn : FuncId} {Q : Ext->St->Prop} {s : St}
theorem zC (h:Q .normal s):wpC orc cfg fn .skip s Q:=⟨_,rfl,h⟩
theorem zW {id:Nat} (h:Q (.exit id) s):wpC orc cfg fn (.exit id) s Q:=⟨_,rfl,h⟩
theorem zF (h:Q .ret s):wpC orc cfg fn .ret s Q:=⟨_,rfl,h⟩
theorem qM1 {a b:Code} (h:wpC orc cfg fn a s (qK4 orc cfg fn b Q)):wpC orc cfg fn (.seq a b) s Q:=by
 obtain⟨⟨e,s1⟩,h1,h2⟩:=h;cases e with
 | normal =>
  obtain⟨r,h3,h4⟩:=h2;exact⟨r,by simp only[jD,h1];exact h3,h4⟩
 | ret=>exact⟨_,by simp only[jD,h1],h2⟩
 | exit i=>exact⟨_,by simp only[jD,h1],h2⟩
theorem qBv {c:Operand} {a b:Code} {v:Bool} (hc:opV s.env c=some (.bool v)) (h1:v=true->wpC orc cfg fn a s Q) (h2:v=false->wpC orc cfg fn b s Q):wpC orc cfg fn (.cond c a b) s Q:=by
 cases v with
 | true =>
  obtain⟨r,h3,h4⟩:=h1 rfl;exact⟨r,by simp only[jD,hc];exact h3,h4⟩
 | false =>
  obtain⟨r,h3,h4⟩:=h2 rfl;exact⟨r,by simp only[jD,hc];exact h3,h4⟩
theorem zG {id:Nat} {b:Code} (h:wpC orc cfg fn b s (qHb id Q)):wpC orc cfg fn (.block id b) s Q:=by
 obtain⟨⟨e,s1⟩,h1,h2⟩:=h;cases e with
 | normal=>exact⟨_,by simp only[jD,h1],h2⟩
 | ret=>exact⟨_,by simp only[jD,h1],h2⟩
 | exit i =>
  by_cases hi:i=id
  ·simp only[qHb,if_pos hi] at h2
   exact⟨_,by simp only[jD,h1,if_pos hi];rfl,h2⟩
  ·simp only[qHb,if_neg hi] at h2
   exact⟨_,by simp only[jD,h1,if_neg hi];rfl,h2⟩
theorem qH {b:Code} {e:Ext} {s':St} (h:orc.loop fn (zB4 b) s=some (e,s')) (hq:Q e s'):wpC orc cfg fn (.loop b) s Q:=⟨_,h,hq⟩
theorem zZu {call:Call} {n:Nat} {f:Func} {full b:Code} (hf:cfg.code fn=some f) (hb:f.body=some full) (hk:qC (zB4 b) full=some b) (h:wpC ⟨call,yA call cfg n⟩ cfg fn b s (fun e s'=>match e with
   | .normal=>∃r,yA call cfg n fn (zB4 b) s'=some r/\Q r.1 r.2
   | e=>Q e s')):wpC ⟨call,yA call cfg (n+1)⟩ cfg fn (.loop b) s Q:=by
 obtain⟨⟨e,s'⟩,h1,h2⟩:=h;cases e with
 | normal =>
  obtain⟨r,h3,h4⟩:=h2;exact⟨r,by simp only[jD,yA,hf,hb,Option.bind_some,hk,h1,h3],h4⟩
 | ret=>exact⟨(.ret,s'),by simp only[jD,yA,hf,hb,Option.bind_some,hk,h1],h2⟩
 | exit i=>exact⟨(.exit i,s'),by simp only[jD,yA,hf,hb,Option.bind_some,hk,h1],h2⟩
theorem zS5 {id:Nat} {ops:Array Oper} (hal:cfg.alR fn id=0) (h:wpO orc.call cfg false ops.toList s.nxt 0 ops.toList s [] (qK5 Q)):wpC orc cfg fn (.region id ops false) s Q:=by
 obtain⟨r,h1,h2⟩:=h;exact⟨(.normal,r.1),by simp only[jD,vR,hal,xN,h1,true_or,if_true,Bool.false_eq_true,if_false],h2⟩
theorem zYg {id:Nat} {ops:Array Oper} (hal:cfg.alR fn id=0) (h:wpO orc.call cfg true ops.toList s.nxt 0 ops.toList s [] (endD Q (s.nxt+32 * ops.toList.length) (yQ ops.toList 0 ops.toList []) (ops.toList.length - 1))):wpC orc cfg fn (.region id ops true) s Q:=by
 obtain⟨r,h1,h2,h3⟩:=h;exact⟨(.normal,⟨r.1.env,r.1.obs,s.nxt+32 * ops.toList.length⟩),by simp only[jD,vR,hal,xN,h1,h2,or_true,if_true],h3⟩
def wpA (call:Call) (cfg:Cfg) (k:Nat) (all:List Oper) (base:Nat) (rest:List Oper) (s:St) (Q:St->Prop):Prop:=∃t,zMb call cfg k all base rest s=some t/\Q t
theorem zXg {id k:Nat} {ops:Array Oper} (hal:cfg.alR fn id=k) (hk:k≠0) (h:wpA orc.call cfg k ops.toList s.nxt ops.toList s (fun t=>Q .normal t)):wpC orc cfg fn (.region id ops false) s Q:=by
 obtain⟨r,h1,h2⟩:=h;exact⟨(.normal,r),by simp only[jD,vR,hal,if_neg hk,zNp,h1,Bool.false_eq_true,if_false],h2⟩
theorem qMc {e:List (Nat×V)} {o:List (Nat×Ob)} {m n':Nat} {tr:List (List (Nat×Acc))} (hn:m=n') (h:Q .normal ⟨e,o,n'⟩):qK5 Q ⟨e,o,m⟩ tr:=by subst hn;exact h
theorem qFp {e:List (Nat×V)} {o:List (Nat×Ob)} {m n n' k:Nat} {bits:List Nat} {tr:List (List (Nat×Acc))} (hn:n=n') (hc:zMs bits k tr=true) (h:Q .normal ⟨e,o,n'⟩):endD Q n bits k ⟨e,o,m⟩ tr:=by subst hn;exact⟨hc,h⟩
theorem zA {b:Code} (h:wpC orc cfg fn b s Q):qK4 orc cfg fn b Q .normal s:=h
theorem zK {b:Code} (h:Q .ret s):qK4 orc cfg fn b Q .ret s:=h
theorem zR {b:Code} {i:Nat} (h:Q (.exit i) s):qK4 orc cfg fn b Q (.exit i) s:=h
theorem zI {id:Nat} (h:Q .normal s):qHb id Q .normal s:=h
theorem zX {id:Nat} (h:Q .ret s):qHb id Q .ret s:=h
theorem zS {i:Nat} (h:Q .normal s):qHb i Q (.exit i) s:=by
 show(if i=i then Q .normal s else Q (.exit i) s);rw[if_pos rfl];exact h
end
section
variable {call : Call} {cfg : Cfg} {draw : Bool} {all rest : List Oper} {base i : Nat} {s : St} {tr : List (List (Nat × Acc))} {Q : St->List (List (Nat × Acc))->Prop}
theorem qO (h:Q s tr):wpO call cfg draw all base i [] s tr Q:=⟨_,rfl,h⟩
theorem qCe {s1:St} {d:Option Tmp} {op:Op} {t:TypeId} {p:String} {af:Array Edge} {r:Option (V×St)} {v:V} {s':St} (h:opE call cfg s.nxt base s t op=r) (hr:r=some (v,s')) (hs:(s'.put d v).on false (max s.nxt s'.nxt)=s1) (hk:wpO call cfg false all base (i+1) rest s1 [] Q) :
  wpO call cfg false all base i (⟨d,op,t,p,af,none⟩::rest) s [] Q:=by
 subst hr;subst hs;obtain⟨r,h1,h2⟩:=hk;exact⟨r,by simp only[zEg,xA,Call.pick,h,Bool.false_eq_true,if_false];exact h1,h2⟩
theorem zW1 {s1:St} {ac:List (Nat×Acc)} {d:Option Tmp} {op:Op} {t:TypeId} {p:String} {af:Array Edge} {r:Option (V×St)} {v:V} {s':St} (h:opE call.noI cfg (base+32 * i) base s t op=r) (hr:r=some (v,s')) (hs:s'.put d v=s1) (ha:zC7 cfg (base+32 * i) base s v op=ac) (hk:wpO call cfg true all base (i+1) rest s1 (ac::tr) Q) :
  wpO call cfg true all base i (⟨d,op,t,p,af,none⟩::rest) s tr Q:=by
 subst hr;subst hs;subst ha;obtain⟨r,h1,h2⟩:=hk;exact⟨r,by simp only[zEg,xA,Call.pick,St.on,h,if_true];exact h1,h2⟩
theorem zUm {o:Oper} {j:Nat} {want b:Bool} (hg:o.guard=some (j,want)) (hb:((all[j]?).bind (·.dst)).bind (zO s.env)=some (.bool b)) (h1:b=want->wpO call cfg draw all base i ({ o with guard:=none } :: rest) s tr Q)
  (h2:b=!want->wpO call cfg draw all base (i+1) rest ((s.put o.dst (.iop .und)).on draw s.nxt) (if draw=true then []::tr else []) Q):wpO call cfg draw all base i (o::rest) s tr Q:=by
 have hgE:xA all s.env o.guard=some (b==want):=by
  unfold xA;rw[hg];simp only[hb]
 by_cases h:b=want
 ·obtain⟨r,h3,h4⟩:=h1 h
  refine⟨r,?_,h4⟩;rw[<-h3];have e:(b==want)=true:=by simp[h]
  rw[e] at hgE;simp only[zEg];rw[hgE]
  rfl
 ·have hn:b=!want:=by cases b<;>cases want<;>simp_all
  obtain⟨r,h3,h4⟩:=h2 hn;refine⟨r,?_,h4⟩;rw[<-h3];have e:(b==want)=false:=by simp[h]
  rw[e] at hgE;simp only[zEg];rw[hgE]
theorem zKb {s1:St} {d:Option Tmp} {op:Op} {t:TypeId} {p:String} {af:Array Edge} {j:Nat} {want b:Bool} {r:Option V} (hb0:((all[j]?).bind (·.dst)).bind (zO s.env)=r) (hb:r=some (.bool b)) (hs:(s.put d (.iop .und)).on draw s.nxt=s1)
  (h1:b=want->wpO call cfg draw all base i (⟨d,op,t,p,af,none⟩::rest) s tr Q) (h2:b=!want->wpO call cfg draw all base (i+1) rest s1 (if draw=true then []::tr else []) Q) :
  wpO call cfg draw all base i (⟨d,op,t,p,af,some (j,want)⟩::rest) s tr Q:=by
 subst hs;exact zUm rfl (hb0.trans hb) h1 h2
end
theorem qIz {P:Program} {T:Tab} {f:FuncId} {fn:Func} {body:Code} {args:List V} {x:V×List V} (hn:T.nils f=false) (hh:T.hsB f=false) (hf:(kI P T).code f=some fn) (hb:fn.body=some body) (hl:args.length=fn.params.size+fn.nfree)
  (h:wpC (Or P T) (kI P T) f body ⟨(zQ 0 args).1,(zQ 0 args).2,args.length⟩ (fun e s=>(e = .normal\/e = .ret)/\∃vs,zEz (kI P T) s fn.results.toList=some vs/\∃q,V.fzL vs s=some q/\∃os,xT 0 args q.2=some os/\(zFi q.1,os)=x)):(Or P T).call f args=some x:=by
 refine qBr ?_ hn hh;obtain⟨r,h1,h2,vs,h3,q,h4,os,h5,h6⟩:=h;unfold vW;simp only[hf,hb,if_pos hl,h1,if_pos h2,h3,h4,h5,zJ,h6]
theorem zY0 {P:Program} {T:Tab} {f k:Nat} {fn:Func} {body full:Code} {s s0:St} {r:Ext×St} (hf:(kI P T).code f=some fn) (hb:fn.body=some full) (hk:qC k full=some body) (hs:zH (fn.params.size+fn.nfree) (T.keep f k) s=s0)
  (h:wpC (Or P T) (kI P T) f body s0 (fun e s'=>match e with
   | .normal=>(Or P T).loop f k s'=some r
   | e=>(e,zH (fn.params.size+fn.nfree) (T.out f k) s')=r)):(Or P T).loop f k s=some r:=by
 refine qD7 ?_;obtain⟨⟨e,s1⟩,h1,h2⟩:=h;unfold zGd;simp only[hf,hb,Option.bind_some,hk];have e1:(kI P T).keep f k=T.keep f k:=rfl;have e2:(kI P T).out f k=T.out f k:=rfl;rw[e1,hs,h1];cases e with
 | normal=>exact h2
 | ret=>simp only at h2;rw[<-h2,e2]
 | exit i=>simp only at h2;rw[<-h2,e2]
def opK (call:Call) (cfg:Cfg) (id base:Nat) (e:List (Nat×V)) (o:List (Nat×Ob)) (n:Nat) (t:TypeId) (op:Op) (K:V->List (Nat×Ob)->Prop):Prop :=
 ∃v o',opE call cfg id base ⟨e,o,n⟩ t op=some (v,⟨e,o',n⟩)/\K v o'
section
variable {call : Call} {cfg : Cfg} {draw : Bool} {all rest : List Oper} {base i : Nat} {tr : List (List (Nat × Acc))} {Q : St->List (List (Nat × Acc))->Prop} {e : List (Nat × V)} {o : List (Nat × Ob)} {n : Nat} {d : Nat} {op : Op} {t : TypeId} {p : String} {af : Array Edge}
theorem wo_k (h:opK call cfg n base e o n t op (fun v o'=>wpO call cfg false all base (i+1) rest ⟨(d,v)::e,o',n+32⟩ [] Q)):wpO call cfg false all base i (⟨some d,op,t,p,af,none⟩::rest) ⟨e,o,n⟩ [] Q:=by
 obtain⟨v,o',h1,h2⟩:=h;exact qCe h1 rfl (by simp only[Nat.max_self];rfl) h2
theorem wo_k0 (h:opK call cfg n base e o n t op (fun _ o'=>wpO call cfg false all base (i+1) rest ⟨e,o',n+32⟩ [] Q)):wpO call cfg false all base i (⟨none,op,t,p,af,none⟩::rest) ⟨e,o,n⟩ [] Q:=by
 obtain⟨v,o',h1,h2⟩:=h;exact qCe h1 rfl (by simp only[Nat.max_self];rfl) h2
theorem wd_k (h:opK call.noI cfg (base+32 * i) base e o n t op (fun v o'=>∃ac,zC7 cfg (base+32 * i) base ⟨e,o,n⟩ v op=ac/\wpO call cfg true all base (i+1) rest ⟨(d,v)::e,o',n⟩ (ac::tr) Q)):wpO call cfg true all base i (⟨some d,op,t,p,af,none⟩::rest) ⟨e,o,n⟩ tr Q:=by
 obtain⟨v,o',h1,ac,h2,h3⟩:=h;exact zW1 h1 rfl rfl h2 h3
theorem wd_k0 (h:opK call.noI cfg (base+32 * i) base e o n t op (fun v o'=>∃ac,zC7 cfg (base+32 * i) base ⟨e,o,n⟩ v op=ac/\wpO call cfg true all base (i+1) rest ⟨e,o',n⟩ (ac::tr) Q)):wpO call cfg true all base i (⟨none,op,t,p,af,none⟩::rest) ⟨e,o,n⟩ tr Q:=by
 obtain⟨v,o',h1,ac,h2,h3⟩:=h;exact zW1 h1 rfl rfl h2 h3
theorem wo_i {args:Array Operand} {ts:Array TypeId} {fo:Operand} {f:FuncId} {cs vs:List V} {v:V} {o':List (Nat×Ob)} {m m':Nat} (hx:kW e args.toList=some vs) (hf:opV e fo=some (.clo f cs)) (hB:cfg.inB f=true) (hk:V.capsOk cs=true)
  (hc:call.i f (vs++cs) ⟨e,o,n⟩ n=some (v,⟨e,o',m⟩)) (hm:max n m+32=m') (h:wpO call cfg false all base (i+1) rest ⟨(d,v)::e,o',m'⟩ [] Q):wpO call cfg false all base i (⟨some d,.call ⟨.value fo,args,ts⟩,t,p,af,none⟩::rest) ⟨e,o,n⟩ [] Q:=by
 refine qCe (v:=v) (s':=⟨e,o',m⟩) (s1:=⟨(d,v)::e,o',m'⟩) (show opE call cfg n base ⟨e,o,n⟩ t _=_ from rfl) ?_ (by subst hm;rfl) h;simp only[opE,hx,hf,if_pos hk,if_pos hB,hc]
theorem wo_on {j:Nat} {want b:Bool} {dd:Option Tmp} (hb:((all[j]?).bind (·.dst)).bind (zO e)=some (.bool b)) (hw:b=want) (h:wpO call cfg draw all base i (⟨dd,op,t,p,af,none⟩::rest) ⟨e,o,n⟩ tr Q):wpO call cfg draw all base i (⟨dd,op,t,p,af,some (j,want)⟩::rest) ⟨e,o,n⟩ tr Q :=
 zKb hb rfl rfl (fun _=>h) (fun h2=>by subst hw;cases b<;>cases h2)
theorem qL8 {j:Nat} {want b:Bool} (hb:((all[j]?).bind (·.dst)).bind (zO e)=some (.bool b)) (hw:b=!want) (h:wpO call cfg false all base (i+1) rest ⟨(d,.iop .und)::e,o,n+32⟩ [] Q):wpO call cfg false all base i (⟨some d,op,t,p,af,some (j,want)⟩::rest) ⟨e,o,n⟩ tr Q :=
 zKb hb rfl rfl (fun h2=>by subst hw;cases want<;>cases h2) (fun _=>h)
theorem qMi {j:Nat} {want b:Bool} (hb:((all[j]?).bind (·.dst)).bind (zO e)=some (.bool b)) (hw:b=!want) (h:wpO call cfg true all base (i+1) rest ⟨(d,.iop .und)::e,o,n⟩ ([]::tr) Q):wpO call cfg true all base i (⟨some d,op,t,p,af,some (j,want)⟩::rest) ⟨e,o,n⟩ tr Q :=
 zKb hb rfl rfl (fun h2=>by subst hw;cases want<;>cases h2) (fun _=>h)
theorem qC9 {j:Nat} {want:Bool} {y:V} (hb:((all[j]?).bind (·.dst)).bind (zO e)=some (.iop y)) (h:wpO call cfg false all base (i+1) rest ⟨(d,.iop .und)::e,o,n+32⟩ [] Q):wpO call cfg false all base i (⟨some d,op,t,p,af,some (j,want)⟩::rest) ⟨e,o,n⟩ tr Q:=by
 obtain⟨r,h1,h2⟩:=h;exact⟨r,by simp only[zEg,xA,hb,Bool.false_eq_true,if_false];exact h1,h2⟩
theorem qC6 {j:Nat} {want b:Bool} {dd:Option Tmp} (hb:((all[j]?).bind (·.dst)).bind (zO e)=some (.bool b))
  (h1:b=want->wpO call cfg draw all base i (⟨dd,op,t,p,af,some (j,want)⟩::rest) ⟨e,o,n⟩ tr Q) (h2:b=!want->wpO call cfg draw all base i (⟨dd,op,t,p,af,some (j,want)⟩::rest) ⟨e,o,n⟩ tr Q) :
  wpO call cfg draw all base i (⟨dd,op,t,p,af,some (j,want)⟩::rest) ⟨e,o,n⟩ tr Q:=by
 by_cases h:b=want
 ·exact h1 h
 ·exact h2 (by cases b<;>cases want<;>simp_all)
end
section
variable {call : Call} {cfg : Cfg} {id base : Nat} {e : List (Nat × V)} {o : List (Nat × Ob)} {n : Nat} {t : TypeId} {K : V->List (Nat × Ob)->Prop}
theorem k_nil {el:TypeId} {z:V} (he:cfg.elem t=some el) (hz:cfg.zero el=some z) (h:K (.lst true z.cells []) o):opK call cfg id base e o n t (.assign (.const (.slice none 0 0))) K :=
 ⟨_,_,by simp only[opE,opT,he,Option.bind_some,hz,zJ],h⟩
theorem qMv (h:K .und o):opK call cfg id base e o n t (.assign (.const (.pointer none))) K :=
 ⟨_,_,by simp only[opE,opT,zJ],h⟩
theorem qAz {x:Operand} {v:V} (hx:opV e x=some v) (hn:zHt x=false):opT cfg e t x=some v:=by
 unfold opT;split
 ·simp[zHt] at hn
 ·simp[opV,zHc] at hx
 ·exact hx
theorem qJa {x:Operand} {v:V} (hx:opV e x=some v) (hn:zHt x=false) (h:K v o):opK call cfg id base e o n t (.move x) K:=⟨_,_,by simp only[opE,qAz hx hn,zJ],h⟩
theorem zXe {x:Operand} {v:V} (hx:opV e x=some v) (hn:zHt x=false) (h:K v o):opK call cfg id base e o n t (.assign x) K:=⟨_,_,by simp only[opE,qAz hx hn,zJ],h⟩
theorem qDa {c x y:Operand} {b:Bool} {v:V} (hc:opV e c=some (.bool b)) (hb:b=true) (hx:opV e x=some v) (h:K v o):opK call cfg id base e o n t (.pick c x y) K:=by
 subst hb;exact⟨v,o,by simp only[opE,hc,if_true,hx,zJ],h⟩
theorem qDk {c x y:Operand} {b:Bool} {v:V} (hc:opV e c=some (.bool b)) (hb:b=false) (hy:opV e y=some v) (h:K v o):opK call cfg id base e o n t (.pick c x y) K:=by
 subst hb;exact⟨v,o,by simp only[opE,hc,Bool.false_eq_true,if_false,hy,zJ],h⟩
theorem qFe {t':TypeId} {z:V} {id':Nat} (hz:cfg.zero t'=some z) (hid:id=id') (h:K (.ptr id' 0 []) ((id',⟨true,false,z.cells,[z],0⟩)::o)):opK call cfg id base e o n t (.alloc t') K:=by
 subst hid;exact⟨_,_,by simp only[opE,hz,zJ];rfl,h⟩
theorem k_box {t':TypeId} {x:Operand} {v z:V} {id':Nat} (hx:opV e x=some v) (hz:cfg.zero t'=some z) (hid:id=id') (hc:z.alike v=true) (ht:v.isTup=false) (h:K (.ptr id' 0 []) ((id',⟨true,false,z.cells,[v],0⟩)::o)):opK call cfg id base e o n t (.box t' x) K:=by
 subst hid;exact⟨_,_,by simp only[opE,hx,hz,if_pos (And.intro hc ht)];rfl,h⟩
theorem zR2 {t':TypeId} {x:Operand} {z vx v:V} (hz:cfg.zero t'=some z) (hx:opV e x=some vx) (hv:zCz ⟨e,o,n⟩ z vx=some v) (h:K v o):opK call cfg id base e o n t (.load t' x) K:=⟨_,_,by simp only[opE,hz,hx,hv,zJ],h⟩
theorem zOb {t':TypeId} {x y:Operand} {z vx vy:V} {o':List (Nat×Ob)} (hz:cfg.zero t'=some z) (hx:opV e x=some vx) (hy:opV e y=some vy) (hv:xJ ⟨e,o,n⟩ z vx vy=some ⟨e,o',n⟩) (h:K .und o'):opK call cfg id base e o n t (.store t' x y) K:=⟨_,_,by simp only[opE,hz,hx,hy,hv,zJ],h⟩
theorem zNo {x:Operand} {k i:Nat} {fs:List Nat} (hx:opV e x=some (.ptr k i fs)) (h:K (.ptr k i fs) o):opK call cfg id base e o n t (.nilCheck x) K:=⟨_,_,by simp only[opE,hx],h⟩
theorem zOq {x:Operand} {y:V} (hx:opV e x=some (.vptr y)) (h:K (.vptr y) o):opK call cfg id base e o n t (.nilCheck x) K:=⟨_,_,by simp only[opE,hx],h⟩
theorem qIl {op:BinOp} {t' t2:TypeId} {x y:Operand} {k:IntKind} {a b:Int} {v:V} (hx:opV e x=some (.int k a)) (hy:opV e y=some (.int k b)) (hn:zHt y=false) (hv:zEy op k a b=some v) (h:K v o):opK call cfg id base e o n t (.binOp op t' x y t2) K:=by
 have hs:¬(op = .shl\/op = .shr):=by
  rintro(rfl|rfl)<;>simp[zEy] at hv
 exact⟨_,_,by simp only[opE,hx,hn,Bool.false_eq_true,if_false,hy,if_neg hs,qEp,if_true,hv,zJ],h⟩
theorem qAn {op:BinOp} {t' t2:TypeId} {x y:Operand} {a b r:Bool} (hz:cfg.zero t'=some (.bool false)) (hx:opV e x=some (.bool a)) (hy:opV e y=some (.bool b)) (hn:zHt y=false) (hv:(op = .eql/\r=decide (a=b))\/(op = .neq/\r=decide (a≠b))) (h:K (.bool r) o):opK call cfg id base e o n t (.binOp op t' x y t2) K:=by
 have hs:¬(op = .shl\/op = .shr):=by
  rintro(rfl|rfl)<;>(rcases hv with⟨h,_⟩|⟨h,_⟩<;>cases h)
 refine⟨_,_,?_,h⟩;simp only[opE,hx,hn,Bool.false_eq_true,if_false,hy,if_neg hs,qEp,qD4,hz,if_true];rcases hv with⟨rfl,rfl⟩|⟨rfl,rfl⟩<;>rfl
theorem qDj {op:BinOp} {t' t2:TypeId} {x y:Operand} {vx vy v:V} (hx:opV e x=some vx) (hy:opV e y=some vy) (hn:zHt y=false) (ho:op = .shl\/op = .shr) (hv:zF5 op vx vy=some v) (h:K v o):opK call cfg id base e o n t (.binOp op t' x y t2) K :=
 ⟨_,_,by simp only[opE,hx,hn,Bool.false_eq_true,if_false,hy,if_pos ho,hv,zJ],h⟩
theorem qC7 {t' t2 el:TypeId} {x y:Operand} {b:Bool} (he:cfg.elem t'=some el) (hx:opV e x=some (.emp b)) (hn:zHt y=true) (h:K (.bool b) o):opK call cfg id base e o n t (.binOp .eql t' x y t2) K :=
 ⟨_,_,by simp only[opE,hx,hn,if_true,qJw,he,Option.isSome_some,and_self,zJ],h⟩
theorem zY5 {t' t2 el:TypeId} {x y:Operand} {sz:Nat} {xs:List V} (he:cfg.elem t'=some el) (hx:opV e x=some (.lst false sz xs)) (hn:zHt y=true) (hxs:xs≠[]) (h:K (.bool false) o):opK call cfg id base e o n t (.binOp .eql t' x y t2) K:=by
 have:¬xs.isEmpty=true:=by cases xs with|nil=>exact absurd rfl hxs|cons a b=>simp
 exact⟨_,_,by simp only[opE,hx,hn,if_true,qJw,he,Option.isSome_some,and_self,if_neg this,zJ],h⟩
theorem k_un {op:UnOp} {t':TypeId} {x:Operand} {vx v:V} (hx:opV e x=some vx) (hv:unV op vx=some v) (h:K v o):opK call cfg id base e o n t (.unOp op t' x) K:=⟨_,_,by simp only[opE,hx,hv,zJ],h⟩
theorem zTg {ts t':TypeId} {x:Operand} {k0 k k1:IntKind} {a:Int} (h0:cfg.ints ts=some k0) (h1:cfg.ints t'=some k) (hx:opV e x=some (.int k1 a)) (h:K (.int k (k.wrap a)) o):opK call cfg id base e o n t (.convert ts t' x) K:=⟨_,_,by simp only[opE,h0,h1,hx],h⟩
theorem zSh {f:FuncId} {caps:Array Operand} {cs:List V} (hx:kW e caps.toList=some cs) (hk:V.capsOk cs=true) (h:K (.clo f cs) o):opK call cfg id base e o n t (.makeFunc (.func f) #[] caps) K :=
 ⟨_,_,by simp only[opE,hx,if_pos hk];rfl,h⟩
theorem zOa {t' el:TypeId} {x y:Operand} {k k':IntKind} {a:Int} {z:V} {id':Nat} (hx:opV e x=some (.int k a)) (hy:opV e y=some (.int k' a)) (he:cfg.elem t'=some el) (hz:cfg.zero el=some z) (hid:id=id') (h0:0<=a) (h1:a<zCe)
  (h:K (.ref id' 0 a.toNat) ((id',⟨false,false,z.cells,List.replicate a.toNat z,0⟩)::o)):opK call cfg id base e o n t (.makeSlice t' x y) K:=by
 subst hid;exact⟨_,_,by simp only[opE,hx,hy,he,Option.bind_some,hz,if_pos (And.intro h0 (And.intro h1 trivial))];rfl,h⟩
theorem qF9 {t' el:TypeId} {x:Operand} {lo hi:Option Operand} {vx z v:V} {vl vh:Option V} {m a b:Int} (hx:opV e x=some vx) (hl:zKk e lo=some vl) (hh:zKk e hi=some vh) (he:cfg.elem t'=some el) (hz:cfg.zero el=some z) (hm:zN0 vx=some m)
  (ha:zBl vl 0=some a) (hb:zBl vh m=some b) (hc:0<=a/\a<=b/\b<=m) (hv:zL0 ⟨e,o,n⟩ z.cells vx a b=some v) (h:K v o):opK call cfg id base e o n t (.slice t' x lo hi none) K :=
 ⟨_,_,by simp only[opE,hx,hl,hh,zF6,he,Option.bind_some,hz,hm,ha,hb,if_pos hc,hv,zJ],h⟩
theorem zF0 {t':TypeId} {x:Operand} {i k j:Nat} {fs:List Nat} {ob:Ob} {y:V} (hx:opV e x=some (.ptr k j fs)) (ho:zO o k=some ob) (hy:ob.get j fs=some y) (hf:jX cfg t' y i=true) (h:K (.ptr k j (fs++[i])) o):opK call cfg id base e o n t (.fieldAddr t' x i) K :=
 ⟨_,_,by simp only[opE,hx,yL,ho,hy,if_pos hf,zJ],h⟩
theorem zLi {t':TypeId} {x:Operand} {i:Nat} {xs:List V} {y:V} (hx:opV e x=some (.vptr (.agg xs))) (hf:jX cfg t' (.agg xs) i=true) (hy:xs[i]? = some y) (h:K (.vptr y) o):opK call cfg id base e o n t (.fieldAddr t' x i) K :=
 ⟨_,_,by simp only[opE,hx,yL,if_pos hf,hy,zJ],h⟩
theorem qCf {t':TypeId} {x:Operand} {i:Nat} {xs:List V} {y:V} (hx:opV e x=some (.agg xs)) (hf:jX cfg t' (.agg xs) i=true) (hy:xs[i]? = some y) (h:K y o):opK call cfg id base e o n t (.field t' x i) K :=
 ⟨_,_,by simp only[opE,hx,if_pos hf,hy,zJ],h⟩
theorem zUt {t' el:TypeId} {x ix:Operand} {k:IntKind} {a:Int} {sz:Nat} {xs:List V} {z y:V} (he:cfg.elem t'=some el) (hz:cfg.zero el=some z) (hx:opV e x=some (.lst false sz xs)) (hi:opV e ix=some (.int k a)) (h0:0<=a) (hy:xs[a.toNat]? = some y) (hc:y.cells=z.cells)
  (h:K (.vptr y) o):opK call cfg id base e o n t (.indexAddr t' x ix) K :=
 ⟨_,_,by simp only[opE,hx,hi,yP,he,Option.bind_some,hz,if_pos h0,hy,if_pos hc,zJ],h⟩
theorem zYu {t' el:TypeId} {x ix:Operand} {k:IntKind} {a:Int} {q lo m:Nat} {ob:Ob} {z y:V} (he:cfg.elem t'=some el) (hz:cfg.zero el=some z) (hx:opV e x=some (.ref q lo m)) (hi:opV e ix=some (.int k a)) (ho:zO o q=some ob) (hb:ob.bx=false) (h0:0<=a) (hm:a.toNat<m)
  (hy:ob.xs[lo+a.toNat]? = some y) (hc:y.cells=z.cells) (h:K (.ptr q (lo+a.toNat) []) o):opK call cfg id base e o n t (.indexAddr t' x ix) K :=
 ⟨_,_,by simp only[opE,hx,hi,yP,he,Option.bind_some,hz,if_pos h0,zD6,if_pos hm,ho,hy,if_pos (And.intro hb hc),zJ],h⟩
theorem zU1 {x:Operand} {i:Nat} {xs:List V} {y:V} (hx:opV e x=some (.tup xs)) (hy:xs[i]? = some y) (h:K y o):opK call cfg id base e o n t (.extract x i) K:=⟨_,_,by simp only[opE,hx,hy,zJ],h⟩
theorem k_len {args:Array Operand} {ts:Array TypeId} {t' el:TypeId} {x:V} {m:Int} (hx:kW e args.toList=some [x]) (ht:ts[0]? = some t') (he:cfg.elem t'=some el) (hm:zN0 x=some m) (h:K (.int .i64 m) o):opK call cfg id base e o n t (.call ⟨.builtin .len,args,ts⟩) K :=
 ⟨_,_,by simp only[opE,hx,jV,ht,he,Option.isSome_some,if_true,hm,zJ],h⟩
theorem qD1 {args:Array Operand} {ts:Array TypeId} {t1 e1:TypeId} {z:V} {q lo m:Nat} {ob:Ob} (hx:kW e args.toList=some [.ref q lo m]) (h1:ts[0]? = some t1) (he:cfg.elem t1=some e1) (hz:cfg.zero e1=some z) (ho:zO o q=some ob) (hc:ob.bx=false/\ob.fx=false/\ob.sz=z.cells/\0<m/\lo+m=ob.xs.length)
  (h:K .und ((q,⟨ob.bx,ob.fx,ob.sz,ob.xs.take lo,ob.ver+1⟩)::o)):opK call cfg id base e o n t (.call ⟨.builtin .clear,args,ts⟩) K :=
 ⟨_,_,by simp only[opE,hx,jV,h1,he,Option.bind_some,hz,ho,if_pos hc];rfl,h⟩
theorem k_cap {args:Array Operand} {ts:Array TypeId} {t' el:TypeId} (hx:kW e args.toList=some [.emp true]) (ht:ts[0]? = some t') (he:cfg.elem t'=some el) (h:K (.int .i64 0) o):opK call cfg id base e o n t (.call ⟨.builtin .cap,args,ts⟩) K :=
 ⟨_,_,by simp only[opE,hx,jV,ht,he,Option.isSome_some,if_true],h⟩
theorem k_min {args:Array Operand} {ts:Array TypeId} {vs:List V} {v:V} (hx:kW e args.toList=some vs) (hv:qLh vs=some v) (h:K v o):opK call cfg id base e o n t (.call ⟨.builtin .min,args,ts⟩) K :=
 ⟨_,_,by simp only[opE,hx,jV,hv,zJ],h⟩
theorem zYa {args:Array Operand} {ts:Array TypeId} {t1 t2 e1 e2:TypeId} {x y z:V} {ys:List V} {s1:St} {b:Nat×List V×St} {o2:List (Nat×Ob)} {id':Nat} (hx:kW e args.toList=some [x,y]) (h1:ts[0]? = some t1) (h2:ts[1]? = some t2) (he1:cfg.elem t1=some e1) (hz:cfg.zero e1=some z) (he2:cfg.elem t2=some e2)
  (hel:St.elems ⟨e,o,n⟩ base y=some (ys,s1)) (hb:s1.base (x.asRow z.cells)=some b) (hs:b.2.2=⟨e,o2,n⟩) (hid:id=id') (hsz:b.1=z.cells) (hc:V.cellsAll z.cells ys=true) (hlen:(b.2.1++ys).length<zCe)
  (h:K (.ref id' 0 (b.2.1++ys).length) ((id',⟨false,false,z.cells,b.2.1++ys,0⟩)::o2)):opK call cfg id base e o n t (.call ⟨.builtin .append,args,ts⟩) K:=by
 subst hid;refine⟨_,_,?_,h⟩;simp only[opE,hx,zF9 (zF2 hel),h1,h2,he2,Option.isSome_some,if_true,zBd,he1,Option.bind_some,hz,hel,hb,if_pos (And.intro hsz (And.intro hc hlen)),hs]
 rfl
theorem zV0 {args:Array Operand} {ts:Array TypeId} {t1 t2 e1:TypeId} {z:V} {k k2:IntKind} {m:Int} {id':Nat} (hx:kW e args.toList=some [.emp true,.int k m]) (h1:ts[0]? = some t1) (h2:ts[1]? = some t2) (he1:cfg.elem t1=some e1) (hz:cfg.zero e1=some z) (hi:cfg.ints t2=some k2) (hid:id=id') (h0:0<m) (hm:m<zCe)
  (h:K (.ref id' 0 m.toNat) ((id',⟨false,false,z.cells,List.replicate m.toNat z,0⟩)::o)):opK call cfg id base e o n t (.call ⟨.builtin .append,args,ts⟩) K:=by
 subst hid;refine⟨_,_,?_,h⟩;simp only[opE,hx,jV,h1,h2,he1,Option.bind_some,hz,hi,Option.isSome_some,true_and,if_pos (And.intro h0 hm)]
 rfl
theorem qDb {t':TypeId} {ps:Array (Nat×Operand)} {zs xs:List V} {l:List (Nat×V)} {fl:List (Nat×TypeId)} (hz:cfg.zero t'=some (.agg zs)) (hf:cfg.flds t'=some fl) (hp:xE e ps.toList=some l) (hv:xG cfg t' zs l=some xs) (h:K (.agg xs) o):opK call cfg id base e o n t (.build t' ps) K :=
 ⟨_,_,by simp only[opE,hz,hf,Option.isSome_some,if_true,hp,hv,zJ],h⟩
theorem zN2 {t' el:TypeId} {m:Nat} {ps:Array (Nat×Operand)} {z:V} {l:List (Nat×V)} {ys:List V} {o1:List (Nat×Ob)} {id':Nat} (he:cfg.elem t'=some el) (hz:cfg.zero el=some z) (hp:xE e ps.toList=some l) (hc:l.map (·.1)=List.range m/\m * z.cells<=16777216/\l.all (fun e=>z.alike e.2)=true)
  (hf:V.fzL (l.map (·.2)) ⟨e,o,n⟩=some (ys,⟨e,o1,n⟩)) (hid:id=id') (h:K (.ref id' 0 m) ((id',⟨false,false,z.cells,ys,0⟩)::o1)):opK call cfg id base e o n t (.buildSlice t' m ps) K:=by
 subst hid;exact⟨_,_,by simp only[opE,he,Option.bind_some,hz,hp,if_pos hc,hf,zJ];rfl,h⟩
theorem zQ2 {args:Array Operand} {ts:Array TypeId} {fo:Operand} {f:FuncId} {cs vs asv bs:List V} {s1 s2:St} {lent:List (Nat×Ob)} {rv:V} {ro:List V} {o2:List (Nat×Ob)} {id':Nat} (hx:kW e args.toList=some vs) (hf:opV e fo=some (.clo f cs)) (hB:cfg.inB f=false) (hk:V.capsOk cs=true) (hl:jW (cfg.md f) (vs++cs) ⟨e,o,n⟩=some (bs,s1,lent))
  (hs:jI s1 (cfg.md f) bs=some asv) (hc:call f asv=some (rv,ro)) (hid:id=id') (hw:((xU (cfg.md f) (vs++cs)).isEmpty=true\/rv.tidy=true/\V.tidyL ro=true)/\(rv.thaw id').2.2<=id'+32) (hb:vV lent ro s1=some s2) (h2:s2=⟨e,o2,n⟩)
  (h:K (rv.thaw id').1 ((rv.thaw id').2.1++o2)):opK call cfg id base e o n t (.call ⟨.value fo,args,ts⟩) K:=by
 subst hid;subst h2;refine⟨_,_,?_,h⟩;simp only[opE,hx,hf,if_pos hk,hB,Bool.false_eq_true,if_false,xM,hl,hs,hc,if_pos hw,hb]
end
structure Tys where
 zero:TypeId->Option V
 elem:TypeId->Option TypeId
 flds:TypeId->Option (List (Nat×TypeId))
 ints:TypeId->Option IntKind
structure TysOK (Y:Tys) (cfg:Cfg):Prop where
 zero:∀t z,Y.zero t=some z->cfg.zero t=some z
 elem:∀t z,Y.elem t=some z->cfg.elem t=some z
 flds:∀t z,Y.flds t=some z->cfg.flds t=some z
 ints:∀t z,Y.ints t=some z->cfg.ints t=some z
def zTv (Y:Tys) (t:TypeId) (x:V) (i:Nat):Bool :=
 match Y.flds t with
 | none=>false
 | some fs=>match x with
  | .agg xs=>match fs[i]? with
   | none=>false
   | some f=>match xs[i]? with
    | none=>false
    | some y=>match Y.zero f.2 with
     | none=>false
     | some z=>decide (fs.length=xs.length)&&(decide (f.1=zC9 xs i)&&z.alike y)
  | _=>false
theorem zAg {Y:Tys} {cfg:Cfg} (H:TysOK Y cfg) {t:TypeId} {x:V} {i:Nat} (h:zTv Y t x i=true):jX cfg t x i=true:=by
 unfold zTv at h;split at h
 ·cases h
 ·rename_i fs hfs
  split at h
  ·rename_i xs
   split at h
   ·cases h
   ·rename_i f hf
    split at h
    ·cases h
    ·rename_i y hy
     split at h
     ·cases h
     ·rename_i z hz
      unfold jX;rw[H.flds t fs hfs];simp only[hf,hy,H.zero f.2 z hz];exact h
  ·cases h
def zTu (Y:Tys) (t:TypeId):List V->List (Nat×V)->Option (List V)
 | xs,[]=>some xs
 | xs,(i,v)::r=>match zTv Y t (.agg xs) i with
  | false=>none
  | true=>match xs[i]? with
   | none=>none
   | some x=>match x.alike v&&!v.isTup with
    | true=>zTu Y t (xs.set i v) r
    | false=>none
theorem zL1 {Y:Tys} {cfg:Cfg} (H:TysOK Y cfg) {t:TypeId}:∀{l:List (Nat×V)} {xs ys:List V},zTu Y t xs l=some ys->xG cfg t xs l=some ys
 | [],xs,ys,h=>h
 | (i,v)::r,xs,ys,h=>by
  simp only[zTu] at h;split at h
  ·cases h
  ·rename_i hf
   split at h
   ·cases h
   ·rename_i x hx
    split at h
    ·rename_i hc
     simp only[Bool.and_eq_true,Bool.not_eq_true'] at hc;simp only[xG,if_pos (zAg H hf),hx,if_pos hc];exact zL1 H h
    ·cases h
end Go.Proofs.YtbcgenkegnmkhaaGreat.Ev
namespace Go.Proofs.YtbcgenkegnmkhaaGreat.Ev
open Go
set_option maxRecDepth 100000
def tyZ:List (Nat×V):=[
 (1,.und),
 (2,.int .i64 0),
 (3,.int .i64 0),
 (4,.bool false),
 (5,.int .u8 0),
 (6,.int .u8 0),
 (7,.agg [.int .i64 0,.int .i64 0,.bool false,.int .u8 0]),
 (8,.agg [.int .i64 0,.int .i64 0,.bool false,.int .u8 0]),
 (10,.und),
 (12,.int .u64 0),
 (22,.lst true 1 []),
 (24,.lst true 7 []),
 (25,.lst true 2 []),
 (28,.lst true 6 []),
 (29,.lst true 1 []),
 (31,.agg [.int .i64 0,.lst true 6 [],.lst true 1 []]),
 (34,.agg [.int .i64 0,.lst true 1 []]),
 (36,.lst true 1 []),
 (37,.lst true 3 []),
 (39,.agg [.int .i64 0,.int .i64 0,.int .i64 0,.int .i64 0,.lst true 2 [],.lst true 3 []]),
 (42,.agg [.int .i64 0,.int .i64 0]),
 (45,.agg [.lst true 1 [],.int .i64 0]),
 (47,.agg [.int .i64 0,.int .i64 0,.int .i64 0,.int .i64 0,.int .i64 0,.int .i64 0,.lst true 1 []]),
 (49,.agg [.int .i64 0,.lst true 2 []]),
 (54,.lst true 7 []),
 (55,.lst true 1 []),
 (57,.agg [.lst true 7 [],.lst true 7 [],.lst true 1 []]),
 (59,.agg [.int .i64 0,.agg [.lst true 7 [],.lst true 7 [],.lst true 1 []]]),
 (62,.agg [.int .i64 0,.lst true 3 []]),
 (66,.agg [.int .i64 0,.int .i64 0,.int .i64 0]),
 (70,.lst true 7 []),
 (71,.lst true 7 []),
 (72,.lst true 1 []),
 (74,.agg [.lst true 7 [],.lst true 7 [],.lst true 1 []]),
 (84,.und),
 (105,.und),
 (114,.lst true 4 []),
 (115,.lst true 3 []),
 (117,.agg [.lst true 6 [],.lst true 3 [],.lst true 4 [],.int .i64 0,.int .i64 0,.lst true 3 [],.bool false]),
 (122,.und),
 (140,.und),
 (149,.agg [.lst true 1 [],.int .i64 0]),
 (161,.und),
 (166,.und),
 (169,.und),
 (174,.und),
 (176,.lst true 3 []),
 (178,.agg [.lst true 2 [],.lst true 2 [],.lst true 3 [],.int .i64 0]),
 (182,.agg [.int .i64 0,.int .i64 0,.lst true 2 []]),
 (187,.agg [.int .i64 0,.int .i64 0,.int .i64 0,.int .i64 0,.int .i64 0,.int .i64 0,.lst true 1 []]),
 (189,.lst true 6 []),
 (190,.lst true 3 []),
 (191,.lst true 4 []),
 (192,.lst true 3 []),
 (194,.agg [.lst true 6 [],.lst true 3 [],.lst true 4 [],.int .i64 0,.int .i64 0,.lst true 3 [],.bool false]),
 (218,.und),
 (222,.agg [.int .i64 0,.int .i64 0,.lst true 2 []]),
 (227,.und),
 (234,.lst true 2 []),
 (236,.agg [.int .i64 0,.int .i64 0,.int .i64 0,.int .i64 0,.lst true 2 [],.lst true 3 []]),
 (258,.int .u64 0),
 (259,.lst true 1 []),
 (265,.lst true 3 []),
 (267,.agg [.lst true 2 [],.lst true 2 [],.lst true 3 [],.int .i64 0]),
 (270,.agg [.int .i64 0,.int .i64 0,.lst true 2 []]),
 (273,.agg [.int .i64 0,.int .i64 0,.int .i64 0]),
 (280,.lst true 1 []),
 (282,.int .i64 0),
 (298,.agg [.lst true 1 [],.int .i64 0]),
 (302,.int .u64 0),
 (306,.und),
 (310,.agg [.int .i64 0,.int .i64 0,.lst true 2 []])]
def tyE:List (Nat×TypeId):=[(22,5),(24,47),(25,45),(28,39),(29,2),(36,25),(37,66),(54,117),(55,28),(70,187),(71,194),(72,189),(114,178),(115,182),(176,222),(189,236),(190,273),(191,267),(192,270),(234,298),(259,37),(265,310),(280,3)]
def tyF:List (Nat×List (Nat×TypeId)):=[
 (7,[(0,2),(1,3),(2,4),(3,6)]),
 (8,[(0,2),(1,3),(2,4),(3,6)]),
 (31,[(0,2),(1,28),(2,29)]),
 (34,[(0,2),(1,29)]),
 (39,[(0,2),(1,2),(2,2),(3,2),(4,25),(5,37)]),
 (42,[(0,2),(1,2)]),
 (45,[(0,29),(1,2)]),
 (47,[(0,2),(1,2),(2,2),(3,2),(4,2),(5,2),(6,29)]),
 (49,[(0,2),(1,25)]),
 (57,[(0,24),(1,54),(2,55)]),
 (59,[(0,2),(1,57)]),
 (62,[(0,2),(1,37)]),
 (66,[(0,2),(1,2),(2,2)]),
 (74,[(0,70),(1,71),(2,72)]),
 (117,[(0,28),(1,37),(2,114),(3,2),(4,2),(5,115),(6,4)]),
 (149,[(0,22),(1,2)]),
 (178,[(0,25),(1,25),(2,176),(3,2)]),
 (182,[(0,2),(1,2),(2,25)]),
 (187,[(0,2),(1,2),(2,2),(3,2),(4,2),(5,2),(6,29)]),
 (194,[(0,189),(1,190),(2,191),(3,2),(4,2),(5,192),(6,4)]),
 (222,[(0,2),(1,2),(2,25)]),
 (236,[(0,2),(1,2),(2,2),(3,2),(4,234),(5,190)]),
 (267,[(0,234),(1,234),(2,265),(3,2)]),
 (270,[(0,2),(1,2),(2,234)]),
 (273,[(0,2),(1,2),(2,2)]),
 (298,[(0,29),(1,2)]),
 (310,[(0,2),(1,2),(2,234)])]
def tyI:List (Nat×IntKind):=[(2,.i64),(3,.i64),(5,.u8),(6,.u8),(12,.u64),(258,.u64),(282,.i64),(302,.u64)]
abbrev tys:Tys:=⟨zO tyZ,zO tyE,zO tyF,zO tyI⟩
def qC3:FuncId->Nat->Option (List Nat)
 | 3,11=>some [3,4,5,6,7,8,9,10,11]
 | 3,14=>some [3,4,5,6,7,8,9,10,11,12]
 | 3,18=>some [3,4,5,6,7,8,9,10,11,12,13,14]
 | 4,12=>some [5,6,7,8]
 | 17,6=>some [0,4,5,6,23,24]
 | 18,8=>some [0,1,4,6,7]
 | 21,8=>some [1,3,42,43,44]
 | 21,15=>some [1,3,59,60,61]
 | 22,7=>some [1,3,24,25]
 | 22,11=>some [1,3,5,6,7,24,25,37,38,39]
 | 25,5=>some [1,3,4]
 | 25,8=>some [1,3,4,5]
 | 35,4=>some [0,3]
 | 45,5=>some [1,13,14,15]
 | 46,3=>some [2,5,6,7,8,10,11,16,17,28,29,30]
 | 46,6=>some [2,5,6,7,8,10,11,16,17,19,28,29,30,38,39,40]
 | 46,10=>some [2,5,6,7,8,10,11,16,17,19,20,28,29,30,38,39,40,51,52,53]
 | 49,5=>some [0,1,6]
 | 50,5=>some [0,1,2,3,4,5,14,15,16,17]
 | 50,9=>some [0,1,2,3,4,5,14,15,16,17,18,19]
 | 50,14=>some [0,1,2,3,4,5,14,15,16,17,18,19,20,21]
 | 52,3=>some [1,5,9,10,11]
 | 53,5=>some [0,4,15,16,17]
 | 53,12=>some [0,4,5,6,15,16,17,34,35,36]
 | 55,4=>some [8,9,10]
 | 59,2=>some [6,7,8]
 | 60,4=>some [4,5,13,14,15]
 | 61,3=>some [0,3,9,10,11]
 | 61,11=>some [6,25,26,27]
 | 64,3=>some [3,8,9,10]
 | 66,3=>some [3,4]
 | 67,4=>some [1,5,6,7]
 | 68,3=>some [0,4,21,22,23]
 | 68,9=>some [0,4,43,44,45]
 | 68,12=>some [0,4,8,43,44,45,50,51,52]
 | 68,17=>some [0,4,8,43,44,45,69,70,71]
 | 68,24=>some [0,4,8,13,43,44,45,69,70,71,109,110,111]
 | 70,3=>some [1,5,10,11,12]
 | 73,4=>some [0,1,5,28,29,30]
 | 73,18=>some [0,1,5,59,60,61]
 | 73,27=>some [0,1,92,93,94]
 | 74,3=>some [0,3,9,10,11]
 | 74,11=>some [6,25,26,27]
 | 76,3=>some [0,2,8,9,12,13,14]
 | 77,3=>some [3,11,12,13]
 | 78,5=>some [0,1,5]
 | 79,5=>some [0,1,5]
 | 80,5=>some [0,1,5]
 | 81,3=>some [0,1,2,7,8]
 | 82,3=>some [0,3,4]
 | 83,3=>some [0,3,4]
 | 84,3=>some [0,3,4]
 | 85,4=>some [0,1,5]
 | 86,4=>some [0,1,5]
 | 87,4=>some [0,1,5]
 | 88,8=>some [1,4,5]
 | 88,13=>some [1,4,6]
 | 88,19=>some [1,8]
 | 88,22=>some [1,8,9]
 | 89,3=>some [1,6,7]
 | 89,7=>some [1,6,7,8,9]
 | 89,14=>some [6,10,11]
 | 90,3=>some [0,3,4]
 | 90,6=>some [0,3,4,5]
 | 90,12=>some [0,3,7]
 | 90,16=>some [0,3,7,8,9]
 | 90,20=>some [0,3,7,8,10]
 | 90,27=>some [0,3,7,8,10,11,12,13]
 | 91,4=>some [0,1,5]
 | 92,2=>some [0,1,5]
 | 93,2=>some [0,1,5]
 | 94,2=>some [0,1,5]
 | 95,2=>some [0,1,5]
 | 96,2=>some [0,1,5]
 | 99,7=>some [0,1,5,6]
 | 99,27=>some [5,8,9]
 | 100,3=>some [0,4,5]
 | 100,8=>some [4,6,7]
 | 101,3=>some [0,1,5,6]
 | 102,4=>some [0,9,10,11]
 | 104,3=>some [2,7,13,14,15]
 | 106,4=>some [0,3]
 | 107,3=>some [0,1,5,6]
 | 110,3=>some [0,1,2,3,4,11,12]
 | 114,12=>some [1,2,47,48,49]
 | 117,4=>some [0,1,10,11,12]
 | 125,5=>some [0,1,5,6]
 | 131,4=>some [1,2,15,16,17]
 | 133,4=>some [0,1,12,13]
 | 136,3=>some [0,1,5,6]
 | 137,3=>some [3,8,9,10]
 | 138,4=>some [6,7,17,18,19]
 | 139,3=>some [1,5,9,10,11]
 | 140,2=>some [0,1,7,8]
 | 141,20=>some [0,1,2,7,9,81,82,83]
 | 148,5=>some [0,1,5]
 | 149,7=>some [0,2,7,8]
 | 152,3=>some [0,3,4]
 | 155,4=>some [0,1,5]
 | 156,7=>some [0,3,6]
 | 156,20=>some [0,3,9]
 | 160,3=>some [1,3,4]
 | 162,2=>some [0,1,5]
 | 163,2=>some [0,1,5]
 | 164,2=>some [0,1,5]
 | 165,2=>some [0,1,5]
 | 169,2=>some [0,3,5]
 | 170,2=>some [0,1,5]
 | 171,2=>some [0,1,11,12]
 | 173,4=>some [0,3]
 | 174,2=>some [0,1,5]
 | 178,2=>some [0,1,7,8]
 | 183,3=>some [3,6,7,8]
 | 184,2=>some [0,1,2,6,7,8]
 | 184,7=>some [0,1,2,6]
 | 184,9=>some [0,1,2,6,7,8]
 | 185,2=>some [0,1,7,8]
 | 186,5=>some [0,3,4]
 | 188,4=>some [0,3]
 | 188,9=>some [0,3,4,5]
 | 189,3=>some [0,3,9,10,11]
 | 189,11=>some [6,25,26,27]
 | 191,5=>some [0,1,5,6]
 | 199,5=>some [0,1,5]
 | 200,5=>some [0,1,5]
 | 202,3=>some [0,3,4]
 | 203,3=>some [0,3,4]
 | 204,3=>some [0,3,4]
 | 205,3=>some [0,3,4]
 | 207,4=>some [0,1,5]
 | 208,4=>some [0,1,5]
 | 209,4=>some [0,1,5]
 | 211,7=>some [0,1,6]
 | 212,14=>some [0,1,5,9]
 | 213,2=>some [0,3,5]
 | 215,2=>some [0,1,5]
 | 216,2=>some [0,1,5]
 | 217,2=>some [0,1,5]
 | 225,3=>some [3,6,7,8]
 | 226,1=>some [0,1,2,3,8]
 | 226,4=>some [0,1,2,3,8,9]
 | 227,3=>some [0,1,4,10,11]
 | 227,9=>some [0,10,13]
 | 227,15=>some [0,2,4,14,15]
 | 227,21=>some [0,14,17]
 | 227,33=>some [0,1,2,3,4,18,19,20,21,22]
 | 228,11=>some [0,4,6,7,8]
 | 229,2=>some [0,1,2,3,8,9]
 | 232,2=>some [0,1,2,6,7,8]
 | 232,7=>some [0,1,2,6]
 | 232,9=>some [0,1,2,6,7,8]
 | 233,2=>some [0,1,7,8]
 | 234,2=>some [0,1,7,8]
 | 237,5=>some [0,1,5]
 | 241,3=>some [0,3,4]
 | 244,4=>some [0,1,5]
 | 251,3=>some [0,3,4]
 | 252,2=>some [0,2,4,10,11]
 | 253,1=>some [0,1,2,6]
 | 253,4=>some [0,1,2,6,7]
 | 254,4=>some [0,6,7,8,9]
 | 254,8=>some [0,6,7,10]
 | 255,5=>some [0,1,6,7,8,9]
 | 257,2=>some [0,6,7]
 | 258,3=>some [0,1,2,7,8]
 | 258,5=>some [0,1,2,7,8]
 | 258,14=>some [0,1,2,7,8,9]
 | 258,20=>some [0,1,2,7,8,10]
 | 260,3=>some [0,1,9,10]
 | 260,5=>some [0,1,9,10]
 | 260,1003=>some [0,1,9,10]
 | 261,3=>some [0,1,10,11]
 | 261,5=>some [0,1,10,11]
 | 261,13=>some [0,1,10,11]
 | 261,15=>some [0,1,10,11]
 | 261,1013=>some [0,1,10,11]
 | 264,1=>some [0,1,2,3,8]
 | 264,4=>some [0,1,2,3,8,9]
 | 265,3=>some [0,1,4,10,11]
 | 265,9=>some [0,10,13]
 | 265,15=>some [0,2,4,14,15]
 | 265,21=>some [0,14,17]
 | 265,33=>some [0,1,2,3,4,18,19,20,21,22]
 | 266,5=>some [0,1,5]
 | 268,3=>some [0,3,4]
 | 270,4=>some [0,1,5]
 | 273,1=>some [0,1,2,3,10]
 | 274,1=>some [0,2,3,8]
 | 279,2=>some [0,2,4,10,11]
 | 284,1=>some [0,1,2,3,10]
 | _,_=>none
def outT:FuncId->Nat->Option (List Nat)
 | 3,11=>some [2,3,4,5,6,7,8,9]
 | 3,14=>some [2,3,4,5,6,7,8,9,10,11]
 | 3,18=>some [2,3,4,5,6,7,8,9,10,11,12,13]
 | 4,12=>some [2,5]
 | 17,6=>some [4,6]
 | 18,8=>some [4,6]
 | 21,8=>some [1,2,3]
 | 21,15=>some [2]
 | 22,7=>some [2]
 | 22,11=>some [1,2,3,24,25]
 | 25,5=>some [2]
 | 25,8=>some [1,2,3,4]
 | 35,4=>some [2]
 | 45,5=>some [4]
 | 46,3=>some [16,17]
 | 46,6=>some [2,5,6,7,8,10,11,16,17,28,29,30]
 | 46,10=>some [2,5,6,7,8,10,11,16,17,19,28,29,30,38,39,40]
 | 49,5=>some [4]
 | 50,5=>some [14,15]
 | 50,9=>some [0,1,2,3,4,5,14,15,16,17]
 | 50,14=>some [0,1,2,3,4,5,14,15,16,17,18,19]
 | 52,3=>some [5]
 | 53,5=>some [2,3,4]
 | 53,12=>some [0,2,3,4,6,15,16,17]
 | 55,4=>some [2]
 | 59,2=>some [2]
 | 60,4=>some [5]
 | 61,3=>some [0,3]
 | 61,11=>some [6]
 | 64,3=>some [3]
 | 66,3=>some [3]
 | 67,4=>some [5]
 | 68,3=>some [0,4]
 | 68,9=>some [4]
 | 68,12=>some [0,4,8,43,44,45]
 | 68,17=>some [0,4,43,44,45]
 | 68,24=>some [0,4,8,43,44,45,69,70,71]
 | 70,3=>some [5]
 | 73,4=>some [0,1,5,6]
 | 73,18=>some [0,1,5,6]
 | 73,27=>some [6]
 | 74,3=>some [0,3]
 | 74,11=>some [6]
 | 76,3=>some [8,9]
 | 77,3=>some [3]
 | 78,5=>some [1,4]
 | 79,5=>some [1,4]
 | 80,5=>some [1,4]
 | 81,3=>some [7]
 | 82,3=>some [3]
 | 83,3=>some [3]
 | 84,3=>some [3]
 | 85,4=>some [4]
 | 86,4=>some [4]
 | 87,4=>some [4]
 | 88,8=>some [1,2,4]
 | 88,13=>some [1,2]
 | 88,19=>some [2]
 | 88,22=>some [1,2,8]
 | 89,3=>some [6]
 | 89,7=>some [1,6,7,8,9]
 | 89,14=>some [4,5,10]
 | 90,3=>some [0,3]
 | 90,6=>some [0,3,4]
 | 90,12=>some [3]
 | 90,16=>some [0,3,7,8]
 | 90,20=>some [0,3,7]
 | 90,27=>some [0,3,7,8,10]
 | 91,4=>some [4]
 | 92,2=>some [1]
 | 93,2=>some [1]
 | 94,2=>some [1]
 | 95,2=>some [1]
 | 96,2=>some [1,4]
 | 99,7=>some [0,4,5]
 | 99,27=>some [4]
 | 100,3=>some [4]
 | 100,8=>some [2,3,6]
 | 101,3=>some [5]
 | 102,4=>some [2]
 | 104,3=>some [7]
 | 106,4=>some [2]
 | 107,3=>some [5]
 | 110,3=>some [11]
 | 114,12=>some [4]
 | 117,4=>some [4]
 | 125,5=>some [0,5]
 | 131,4=>some [6]
 | 133,4=>some [4]
 | 136,3=>some [5]
 | 137,3=>some [3]
 | 138,4=>some [7]
 | 139,3=>some [5]
 | 140,2=>some [4]
 | 141,20=>some [7,8,9]
 | 148,5=>some [1,4]
 | 149,7=>some [6]
 | 152,3=>some [3]
 | 155,4=>some [4]
 | 156,7=>some [0,3,4]
 | 156,20=>some [0,3,4]
 | 160,3=>some [3]
 | 162,2=>some [1]
 | 163,2=>some [1]
 | 164,2=>some [1]
 | 165,2=>some [1]
 | 169,2=>some [0,3,5]
 | 170,2=>some [5]
 | 171,2=>some [0,1,4]
 | 173,4=>some [2]
 | 174,2=>some [0,1,4]
 | 178,2=>some [4]
 | 183,3=>some [3]
 | 184,2=>some [0,1,2,6,7]
 | 184,7=>some []
 | 184,9=>some [0,1,2,6,7]
 | 185,2=>some [4]
 | 186,5=>some [3]
 | 188,4=>some [0,2]
 | 188,9=>some [0,3]
 | 189,3=>some [0,3]
 | 189,11=>some [6]
 | 191,5=>some [0,5]
 | 199,5=>some [1,4]
 | 200,5=>some [1,4]
 | 202,3=>some [3]
 | 203,3=>some [3]
 | 204,3=>some [3]
 | 205,3=>some [3]
 | 207,4=>some [4]
 | 208,4=>some [4]
 | 209,4=>some [4]
 | 211,7=>some [4]
 | 212,14=>some [0,1,5,6]
 | 213,2=>some [4]
 | 215,2=>some [4]
 | 216,2=>some [1]
 | 217,2=>some [1]
 | 225,3=>some [2,3]
 | 226,1=>some []
 | 226,4=>some [0,1,2,3,8]
 | 227,3=>some [0,1,10]
 | 227,9=>some []
 | 227,15=>some [0,2,14]
 | 227,21=>some []
 | 227,33=>some [0,1,2,3,4,18,19,20]
 | 228,11=>some [4,6]
 | 229,2=>some []
 | 232,2=>some [0,1,2,6,7]
 | 232,7=>some []
 | 232,9=>some [0,1,2,6,7]
 | 233,2=>some [4]
 | 234,2=>some [4]
 | 237,5=>some [1,4]
 | 241,3=>some [3]
 | 244,4=>some [4]
 | 251,3=>some [3]
 | 252,2=>some [0,2,4,10]
 | 253,1=>some []
 | 253,4=>some [0,1,2,6]
 | 254,4=>some [0,6,7,8]
 | 254,8=>some []
 | 255,5=>some []
 | 257,2=>some []
 | 258,3=>some [6]
 | 258,5=>some [0,1,2,7,8]
 | 258,14=>some [0,1,2,7,8]
 | 258,20=>some [0,1,2,7,8]
 | 260,3=>some [0,1,9,10]
 | 260,5=>some [0,1,9,10]
 | 260,1003=>some [9]
 | 261,3=>some [0,1,10,11]
 | 261,5=>some [0,1,10,11]
 | 261,13=>some [0,1,10,11]
 | 261,15=>some [0,1,10,11]
 | 261,1013=>some [0,1,11]
 | 264,1=>some []
 | 264,4=>some [0,1,2,3,8]
 | 265,3=>some [0,1,10]
 | 265,9=>some []
 | 265,15=>some [0,2,14]
 | 265,21=>some []
 | 265,33=>some [0,1,2,3,4,18,19,20]
 | 266,5=>some [1,4]
 | 268,3=>some [3]
 | 270,4=>some [4]
 | 273,1=>some []
 | 274,1=>some []
 | 279,2=>some [0,2,4,10]
 | 284,1=>some []
 | _,_=>none
def mdT:FuncId->List Md
 | 36=>[.io]
 | 37=>[.io]
 | 40=>[.io]
 | 42=>[.io,.take]
 | 92=>[.io]
 | 93=>[.io]
 | 94=>[.io]
 | 95=>[.io]
 | 98=>[.io]
 | 101=>[.io]
 | 122=>[.io]
 | 125=>[.take]
 | 134=>[.io]
 | 162=>[.io]
 | 163=>[.io]
 | 164=>[.io]
 | 165=>[.io]
 | 166=>[.io]
 | 169=>[.take]
 | 170=>[.io]
 | 184=>[.io]
 | 186=>[.io]
 | 187=>[.io]
 | 188=>[.take]
 | 190=>[.io]
 | 191=>[.take]
 | 216=>[.io]
 | 217=>[.io]
 | 218=>[.io]
 | 226=>[.io]
 | 227=>[.io]
 | 229=>[.io]
 | 232=>[.io]
 | 252=>[.io]
 | 253=>[.io]
 | 254=>[.io]
 | 255=>[.io]
 | 256=>[.io]
 | 257=>[.io]
 | 258=>[.io]
 | 260=>[.io]
 | 261=>[.io]
 | 264=>[.io]
 | 265=>[.io]
 | 273=>[.io]
 | 274=>[.io]
 | 277=>[.io]
 | 278=>[.io]
 | 279=>[.io]
 | 283=>[.io]
 | 284=>[.io]
 | _=>[]
def qH6:FuncId->Bool
 | 65=>true
 | 121=>true
 | 124=>true
 | 135=>true
 | _=>false
def inT:FuncId->Bool
 | 30=>true
 | 31=>true
 | 34=>true
 | 92=>true
 | 93=>true
 | 94=>true
 | 95=>true
 | 97=>true
 | 130=>true
 | 142=>true
 | 162=>true
 | 163=>true
 | 164=>true
 | 165=>true
 | 216=>true
 | 217=>true
 | 228=>true
 | 231=>true
 | _=>false
def plT:FuncId->Bool
 | 92=>true
 | 93=>true
 | 94=>true
 | 95=>true
 | 162=>true
 | 163=>true
 | 164=>true
 | 165=>true
 | 216=>true
 | 217=>true
 | _=>false
def hsT:FuncId->Bool
 | 8=>true
 | 9=>true
 | 40=>true
 | 98=>true
 | 134=>true
 | _=>false
def fsT:FuncId->Bool
 | 134=>true
 | _=>false
def alT:FuncId->Nat->Nat
 | 186,7=>1
 | 186,8=>1
 | 186,9=>2
 | _,_=>0
def tb:Tab:=⟨mdT,qC3,outT,qH6,inT,plT,hsT,fsT,alT⟩
theorem zDz {α:Type} {f:Nat->Option α}:∀{l:List (Nat×α)},l.map (fun p=>f p.1)=l.map (fun p=>some p.2)->∀{t:Nat} {z:α},zO l t=some z->f t=some z
 | [],_,t,z,h=>by cases h
 | (k,x)::r,e,t,z,h=>by
  simp only[List.map_cons,List.cons.injEq] at e;simp only[zO] at h;split at h
  ·rename_i hk;subst hk;rw[<-h];exact e.1
  ·exact zDz e.2 h
@[irreducible] noncomputable def cf:Cfg:=kI Tryz.prog tb
@[irreducible] noncomputable def oc:Orc:=Or Tryz.prog tb
theorem tys_ok:TysOK tys cf where
 zero t z h:=zDz (f:=cf.zero) (by unfold cf;kernel_rfl) h
 elem t z h:=zDz (f:=cf.elem) (by unfold cf;kernel_rfl) h
 flds t z h:=zDz (f:=cf.flds) (by unfold cf;kernel_rfl) h
 ints t z h:=zDz (f:=cf.ints) (by unfold cf;kernel_rfl) h
theorem zB7:cf.md=mdT:=by unfold cf;rfl
theorem zFc:cf.inB=inT:=by unfold cf;rfl
theorem zRr:cf.plB=plT:=by unfold cf;rfl
theorem zZk:cf.alR=alT:=by unfold cf;rfl
theorem zN {f:FuncId} {fn:Func} (h:Tryz.prog.funcs[f]? = some fn) (h2:fnOk fn=true):cf.code f=some fn:=by
 unfold cf;simp only[kI,h,h2,if_true]
theorem cd3:cf.code 3=some Tryz.f3:=zN Tryz.func3 (by kernel_rfl)
theorem cd7:cf.code 7=some Tryz.f7:=zN Tryz.func7 (by kernel_rfl)
theorem cd8:cf.code 8=some Tryz.f8:=zN Tryz.func8 (by kernel_rfl)
theorem cd9:cf.code 9=some Tryz.f9:=zN Tryz.func9 (by kernel_rfl)
theorem cd10:cf.code 10=some Tryz.f10:=zN Tryz.func10 (by kernel_rfl)
theorem cd11:cf.code 11=some Tryz.f11:=zN Tryz.func11 (by kernel_rfl)
theorem cd12:cf.code 12=some Tryz.f12:=zN Tryz.func12 (by kernel_rfl)
theorem cd13:cf.code 13=some Tryz.f13:=zN Tryz.func13 (by kernel_rfl)
theorem cd14:cf.code 14=some Tryz.f14:=zN Tryz.func14 (by kernel_rfl)
theorem cd15:cf.code 15=some Tryz.f15:=zN Tryz.func15 (by kernel_rfl)
theorem cd33:cf.code 33=some Tryz.f33:=zN Tryz.func33 (by kernel_rfl)
theorem cd34:cf.code 34=some Tryz.f34:=zN Tryz.func34 (by kernel_rfl)
theorem cd35:cf.code 35=some Tryz.f35:=zN Tryz.func35 (by kernel_rfl)
theorem cd36:cf.code 36=some Tryz.f36:=zN Tryz.func36 (by kernel_rfl)
theorem cd37:cf.code 37=some Tryz.f37:=zN Tryz.func37 (by kernel_rfl)
theorem cd38:cf.code 38=some Tryz.f38:=zN Tryz.func38 (by kernel_rfl)
theorem cd39:cf.code 39=some Tryz.f39:=zN Tryz.func39 (by kernel_rfl)
theorem cd40:cf.code 40=some Tryz.f40:=zN Tryz.func40 (by kernel_rfl)
theorem cd41:cf.code 41=some Tryz.f41:=zN Tryz.func41 (by kernel_rfl)
theorem cd42:cf.code 42=some Tryz.f42:=zN Tryz.func42 (by kernel_rfl)
theorem cd43:cf.code 43=some Tryz.f43:=zN Tryz.func43 (by kernel_rfl)
theorem cd44:cf.code 44=some Tryz.f44:=zN Tryz.func44 (by kernel_rfl)
theorem cd45:cf.code 45=some Tryz.f45:=zN Tryz.func45 (by kernel_rfl)
theorem cd46:cf.code 46=some Tryz.f46:=zN Tryz.func46 (by kernel_rfl)
theorem cd47:cf.code 47=some Tryz.f47:=zN Tryz.func47 (by kernel_rfl)
theorem cd48:cf.code 48=some Tryz.f48:=zN Tryz.func48 (by kernel_rfl)
theorem cd49:cf.code 49=some Tryz.f49:=zN Tryz.func49 (by kernel_rfl)
theorem cd50:cf.code 50=some Tryz.f50:=zN Tryz.func50 (by kernel_rfl)
theorem cd51:cf.code 51=some Tryz.f51:=zN Tryz.func51 (by kernel_rfl)
theorem cd52:cf.code 52=some Tryz.f52:=zN Tryz.func52 (by kernel_rfl)
theorem cd53:cf.code 53=some Tryz.f53:=zN Tryz.func53 (by kernel_rfl)
theorem cd54:cf.code 54=some Tryz.f54:=zN Tryz.func54 (by kernel_rfl)
theorem cd55:cf.code 55=some Tryz.f55:=zN Tryz.func55 (by kernel_rfl)
theorem cd56:cf.code 56=some Tryz.f56:=zN Tryz.func56 (by kernel_rfl)
theorem cd57:cf.code 57=some Tryz.f57:=zN Tryz.func57 (by kernel_rfl)
theorem cd58:cf.code 58=some Tryz.f58:=zN Tryz.func58 (by kernel_rfl)
theorem cd59:cf.code 59=some Tryz.f59:=zN Tryz.func59 (by kernel_rfl)
theorem cd60:cf.code 60=some Tryz.f60:=zN Tryz.func60 (by kernel_rfl)
theorem qAk:cf.code 61=some Tryz.f61:=zN Tryz.func61 (by kernel_rfl)
theorem cd62:cf.code 62=some Tryz.f62:=zN Tryz.func62 (by kernel_rfl)
theorem cd75:cf.code 75=some Tryz.f75:=zN Tryz.func75 (by kernel_rfl)
theorem cd97:cf.code 97=some Tryz.f97:=zN Tryz.func97 (by kernel_rfl)
theorem qH4:cf.code 98=some Tryz.f98:=zN Tryz.func98 (by kernel_rfl)
theorem cd99:cf.code 99=some Tryz.f99:=zN Tryz.func99 (by kernel_rfl)
theorem qEa:cf.code 100=some Tryz.f100:=zN Tryz.func100 (by kernel_rfl)
theorem qIw:cf.code 101=some Tryz.f101:=zN Tryz.func101 (by kernel_rfl)
theorem qHu:cf.code 102=some Tryz.f102:=zN Tryz.func102 (by kernel_rfl)
theorem cd103:cf.code 103=some Tryz.f103:=zN Tryz.func103 (by kernel_rfl)
theorem qM8:cf.code 104=some Tryz.f104:=zN Tryz.func104 (by kernel_rfl)
theorem cd105:cf.code 105=some Tryz.f105:=zN Tryz.func105 (by kernel_rfl)
theorem qLr:cf.code 106=some Tryz.f106:=zN Tryz.func106 (by kernel_rfl)
theorem qNd:cf.code 107=some Tryz.f107:=zN Tryz.func107 (by kernel_rfl)
theorem cd108:cf.code 108=some Tryz.f108:=zN Tryz.func108 (by kernel_rfl)
theorem cd109:cf.code 109=some Tryz.f109:=zN Tryz.func109 (by kernel_rfl)
theorem qK2:cf.code 110=some Tryz.f110:=zN Tryz.func110 (by kernel_rfl)
theorem cd111:cf.code 111=some Tryz.f111:=zN Tryz.func111 (by kernel_rfl)
theorem cd112:cf.code 112=some Tryz.f112:=zN Tryz.func112 (by kernel_rfl)
theorem qJz:cf.code 113=some Tryz.f113:=zN Tryz.func113 (by kernel_rfl)
theorem qKd:cf.code 114=some Tryz.f114:=zN Tryz.func114 (by kernel_rfl)
theorem cd115:cf.code 115=some Tryz.f115:=zN Tryz.func115 (by kernel_rfl)
theorem cd116:cf.code 116=some Tryz.f116:=zN Tryz.func116 (by kernel_rfl)
theorem qKv:cf.code 117=some Tryz.f117:=zN Tryz.func117 (by kernel_rfl)
theorem cd118:cf.code 118=some Tryz.f118:=zN Tryz.func118 (by kernel_rfl)
theorem cd119:cf.code 119=some Tryz.f119:=zN Tryz.func119 (by kernel_rfl)
theorem cd120:cf.code 120=some Tryz.f120:=zN Tryz.func120 (by kernel_rfl)
theorem qBx:cf.code 121=some Tryz.f121:=zN Tryz.func121 (by kernel_rfl)
theorem cd122:cf.code 122=some Tryz.f122:=zN Tryz.func122 (by kernel_rfl)
theorem cd123:cf.code 123=some Tryz.f123:=zN Tryz.func123 (by kernel_rfl)
theorem qBy:cf.code 124=some Tryz.f124:=zN Tryz.func124 (by kernel_rfl)
theorem qE0:cf.code 125=some Tryz.f125:=zN Tryz.func125 (by kernel_rfl)
theorem cd126:cf.code 126=some Tryz.f126:=zN Tryz.func126 (by kernel_rfl)
theorem cd127:cf.code 127=some Tryz.f127:=zN Tryz.func127 (by kernel_rfl)
theorem cd128:cf.code 128=some Tryz.f128:=zN Tryz.func128 (by kernel_rfl)
theorem cd129:cf.code 129=some Tryz.f129:=zN Tryz.func129 (by kernel_rfl)
theorem qIv:cf.code 130=some Tryz.f130:=zN Tryz.func130 (by kernel_rfl)
theorem qKh:cf.code 131=some Tryz.f131:=zN Tryz.func131 (by kernel_rfl)
theorem cd132:cf.code 132=some Tryz.f132:=zN Tryz.func132 (by kernel_rfl)
theorem qMd:cf.code 133=some Tryz.f133:=zN Tryz.func133 (by kernel_rfl)
theorem cd134:cf.code 134=some Tryz.f134:=zN Tryz.func134 (by kernel_rfl)
theorem cd159:cf.code 159=some Tryz.f159:=zN Tryz.func159 (by kernel_rfl)
theorem cd166:cf.code 166=some Tryz.f166:=zN Tryz.func166 (by kernel_rfl)
theorem cd167:cf.code 167=some Tryz.f167:=zN Tryz.func167 (by kernel_rfl)
theorem cd168:cf.code 168=some Tryz.f168:=zN Tryz.func168 (by kernel_rfl)
theorem qK1:cf.code 169=some Tryz.f169:=zN Tryz.func169 (by kernel_rfl)
theorem qJ9:cf.code 170=some Tryz.f170:=zN Tryz.func170 (by kernel_rfl)
theorem qKi:cf.code 171=some Tryz.f171:=zN Tryz.func171 (by kernel_rfl)
theorem cd172:cf.code 172=some Tryz.f172:=zN Tryz.func172 (by kernel_rfl)
theorem qL2:cf.code 173=some Tryz.f173:=zN Tryz.func173 (by kernel_rfl)
theorem qK8:cf.code 174=some Tryz.f174:=zN Tryz.func174 (by kernel_rfl)
theorem cd175:cf.code 175=some Tryz.f175:=zN Tryz.func175 (by kernel_rfl)
theorem cd176:cf.code 176=some Tryz.f176:=zN Tryz.func176 (by kernel_rfl)
theorem cd177:cf.code 177=some Tryz.f177:=zN Tryz.func177 (by kernel_rfl)
theorem qJb:cf.code 178=some Tryz.f178:=zN Tryz.func178 (by kernel_rfl)
theorem cd179:cf.code 179=some Tryz.f179:=zN Tryz.func179 (by kernel_rfl)
theorem cd180:cf.code 180=some Tryz.f180:=zN Tryz.func180 (by kernel_rfl)
theorem cd181:cf.code 181=some Tryz.f181:=zN Tryz.func181 (by kernel_rfl)
theorem cd182:cf.code 182=some Tryz.f182:=zN Tryz.func182 (by kernel_rfl)
theorem qLi:cf.code 183=some Tryz.f183:=zN Tryz.func183 (by kernel_rfl)
theorem zYq:cf.code 184=some Tryz.f184:=zN Tryz.func184 (by kernel_rfl)
theorem zZa:cf.code 185=some Tryz.f185:=zN Tryz.func185 (by kernel_rfl)
theorem qL7:cf.code 186=some Tryz.f186:=zN Tryz.func186 (by kernel_rfl)
theorem cd218:cf.code 218=some Tryz.f218:=zN Tryz.func218 (by kernel_rfl)
theorem cd219:cf.code 219=some Tryz.f219:=zN Tryz.func219 (by kernel_rfl)
theorem cd220:cf.code 220=some Tryz.f220:=zN Tryz.func220 (by kernel_rfl)
theorem cd221:cf.code 221=some Tryz.f221:=zN Tryz.func221 (by kernel_rfl)
theorem cd222:cf.code 222=some Tryz.f222:=zN Tryz.func222 (by kernel_rfl)
theorem cd223:cf.code 223=some Tryz.f223:=zN Tryz.func223 (by kernel_rfl)
theorem cd224:cf.code 224=some Tryz.f224:=zN Tryz.func224 (by kernel_rfl)
theorem qIy:cf.code 225=some Tryz.f225:=zN Tryz.func225 (by kernel_rfl)
theorem qFn:cf.code 226=some Tryz.f226:=zN Tryz.func226 (by kernel_rfl)
theorem zSl:cf.code 227=some Tryz.f227:=zN Tryz.func227 (by kernel_rfl)
theorem zV1:cf.code 228=some Tryz.f228:=zN Tryz.func228 (by kernel_rfl)
theorem cd248:cf.code 248=some Tryz.f248:=zN Tryz.func248 (by kernel_rfl)
theorem cd249:cf.code 249=some Tryz.f249:=zN Tryz.func249 (by kernel_rfl)
theorem cd250:cf.code 250=some Tryz.f250:=zN Tryz.func250 (by kernel_rfl)
theorem qI8:cf.code 251=some Tryz.f251:=zN Tryz.func251 (by kernel_rfl)
theorem qM4:cf.code 252=some Tryz.f252:=zN Tryz.func252 (by kernel_rfl)
theorem qKo:cf.code 273=some Tryz.f273:=zN Tryz.func273 (by kernel_rfl)
end Go.Proofs.YtbcgenkegnmkhaaGreat.Ev
namespace Go.Proofs.YtbcgenkegnmkhaaGreat.Ev
open Go
abbrev St.re (e:List (Nat×V)) (s:St):St:=⟨e,s.obs,s.nxt⟩
theorem qFc (e:List (Nat×V)) (s:St) (o i:Nat) (fs:List Nat) (ver n:Nat):St.at (s.re e) o i fs ver n=St.at s o i fs ver n:=rfl
theorem qEx (e:List (Nat×V)) (s:St) (o i:Nat) (fs:List Nat) (ver n:Nat):St.take (s.re e) o i fs ver n=mp (s.take o i fs ver n) fun r=>(r.1,r.2.1,r.2.2.re e):=by
 unfold St.take;rw[qFc];cases s.at o i fs ver n with
 | none=>rfl
 | some a=>cases h:a.2.2.set i fs .und<;>simp[mp,h]
theorem zXi (e:List (Nat×V)) (s:St) (o i:Nat) (fs:List Nat) (ver n:Nat):St.takeQ (s.re e) o i fs ver n=mp (s.takeQ o i fs ver n) fun r=>(r.1,r.2.1,r.2.2.re e):=by
 unfold St.takeQ;rw[qFc];cases s.at o i fs ver n with
 | none=>rfl
 | some a=>cases h:a.2.2.set i fs .und<;>simp[mp,h]
theorem zOi (e:List (Nat×V)) (s:St) (o lo n:Nat):St.give (s.re e) o lo n=mp (s.give o lo n) fun r=>(r.1,r.2.1,r.2.2.re e):=by
 unfold St.give;show(match zO s.obs o with|none=>none|some ob=>_)=_;cases zO s.obs o with
 | none=>rfl
 | some ob =>
  simp only
  by_cases h:ob.bx=false/\ob.fx=false/\lo+n<=ob.xs.length
  ·rw[if_pos h,if_pos h];rfl
  ·rw[if_neg h,if_neg h];rfl
theorem zRv (e:List (Nat×V)) (s:St) (o lo n:Nat):St.moveRow (s.re e) o lo n=mp (s.moveRow o lo n) fun r=>(r.1,r.2.re e):=by
 unfold St.moveRow;show(match zO s.obs o with|none=>none|some ob=>_)=_;cases zO s.obs o with
 | none=>rfl
 | some ob =>
  simp only
  by_cases h:ob.bx=false/\lo+n<=ob.xs.length
  ·rw[if_pos h,if_pos h];rfl
  ·rw[if_neg h,if_neg h];rfl
theorem zRt (e:List (Nat×V)) (s:St) (o lo n:Nat):St.copyRow (s.re e) o lo n=mp (s.copyRow o lo n) fun r=>(r.1,r.2.re e):=by
 unfold St.copyRow;show(match zO s.obs o with|none=>none|some ob=>_)=_;cases zO s.obs o with
 | none=>rfl
 | some ob =>
  simp only
  by_cases h:ob.bx=false/\lo+n<=ob.xs.length
  ·rw[if_pos h,if_pos h];rfl
  ·rw[if_neg h,if_neg h];rfl
theorem zSc (e:List (Nat×V)) (s:St) (o i:Nat) (fs:List Nat) (ver n:Nat):St.copyPlc (s.re e) o i fs ver n=mp (s.copyPlc o i fs ver n) fun r=>(r.1,r.2.re e):=by
 unfold St.copyPlc;rw[qFc];cases s.at o i fs ver n with
 | none=>rfl
 | some a=>cases h:a.2.2.set i fs (.lst false 0 (V.shareL a.2.1))<;>simp[mp,h]
mutual
theorem zBc (e:List (Nat×V)):∀(v:V) (s:St),V.fz v (s.re e)=mp (V.fz v s) fun r=>(r.1,r.2.re e)
 | .int _ _,s=>rfl
 | .bool _,s=>rfl
 | .str _,s=>rfl
 | .lst false _ _,s=>by simp[V.fz,mp]
 | .lst true _ [],s=>by simp[V.fz,mp]
 | .lst true _ (_::_),s=>by simp[V.fz,mp]
 | .emp _,s=>rfl
 | .agg xs,s=>by
  simp only[V.fz,zKt e xs s];cases V.fzL xs s<;>simp[mp]
 | .ref o lo n,s=>by
  simp only[V.fz,zOi];cases s.give o lo n<;>simp[mp]
 | .plc o i fs ver n,s=>by
  simp only[V.fz,zXi];cases s.takeQ o i fs ver n<;>simp[mp]
 | .tup _,s=>by simp[V.fz,mp]
 | .und,s=>by simp[V.fz,mp]
 | .ptr ..,s=>by simp[V.fz,mp]
 | .vptr _,s=>by simp[V.fz,mp]
 | .clo ..,s=>by simp[V.fz,mp]
 | .iol ..,s=>by simp[V.fz,mp]
 | .iop _,s=>by simp[V.fz,mp]
theorem zKt (e:List (Nat×V)):∀(l:List V) (s:St),V.fzL l (s.re e)=mp (V.fzL l s) fun r=>(r.1,r.2.re e)
 | [],s=>rfl
 | x::r,s=>by
  simp only[V.fzL,zBc e x s];cases x.fz s with
  | none=>rfl
  | some a =>
   simp only[mp,Option.map_some]
   have:=zKt e r a.2
   rw[this];cases V.fzL r a.2<;>simp[mp]
end
theorem zYo (e:List (Nat×V)) (s:St) (base:Nat):∀v:V,St.elems (s.re e) base v=mp (s.elems base v) fun r=>(r.1,r.2.re e)
 | .lst false _ _=>rfl
 | .lst true _ []=>rfl
 | .emp _=>rfl
 | .ref o lo n=>by
  simp only[St.elems];split
  ·rw[zOi];cases s.give o lo n<;>simp[mp]
  ·split
   ·exact zRv e s o lo n
   ·exact zRt e s o lo n
 | .plc o i fs ver n=>zSc e s o i fs ver n
 | .lst true _ (_::_)=>rfl
 | .int ..=>rfl
 | .bool _=>rfl
 | .str _=>rfl
 | .agg _=>rfl
 | .tup _=>rfl
 | .und=>rfl
 | .ptr ..=>rfl
 | .vptr _=>rfl
 | .clo ..=>rfl
 | .iol ..=>rfl
 | .iop _=>rfl
theorem qBu (e:List (Nat×V)) (s:St) (v:V):St.base (s.re e) v=mp (s.base v) fun r=>(r.1,r.2.1,r.2.2.re e):=by
 unfold St.base;split
 ·simp[mp]
 ·exact zOi ..
 ·exact qEx ..
 ·rfl
theorem zZ0 (e:List (Nat×V)) (s:St) (z v:V):∀x:V,xJ (s.re e) z x v=mp (xJ s z x v) fun r=>r.re e
 | .ptr o i fs=>by
  simp only[xJ];show(match zO s.obs o with|none=>none|some ob=>_)=_;cases zO s.obs o with
  | none=>rfl
  | some ob =>
   simp only;cases ob.get i fs with
   | none=>rfl
   | some old =>
    simp only
    by_cases h:old.alike v=true/\z.alike v=true
    ·rw[if_pos h,if_pos h]
     by_cases hb:ob.bx=true
     ·rw[if_pos hb,if_pos hb]
      by_cases ht:v.isTup=true
      ·rw[if_pos ht,if_pos ht];rfl
      ·rw[if_neg ht,if_neg ht]
       cases ob.set i fs v<;>simp[mp]
     ·rw[if_neg hb,if_neg hb,zBc]
      cases v.fz s with
      | none=>rfl
      | some r =>
       simp only[mp,Option.map_some];cases zO r.2.obs o with
       | none=>rfl
       | some ob2 =>
        simp only;cases ob2.get i fs with
        | none=>rfl
        | some old2 =>
         simp only
         by_cases h2:old2.alike r.1=true
         ·rw[if_pos h2,if_pos h2]
          cases ob2.set i fs r.1<;>simp
         ·rw[if_neg h2,if_neg h2];rfl
    ·rw[if_neg h,if_neg h];rfl
 | .lst ..=>rfl
 | .emp _=>rfl
 | .ref ..=>rfl
 | .plc ..=>rfl
 | .int ..=>rfl
 | .bool _=>rfl
 | .str _=>rfl
 | .agg _=>rfl
 | .tup _=>rfl
 | .und=>rfl
 | .vptr _=>rfl
 | .clo ..=>rfl
 | .iol ..=>rfl
 | .iop _=>rfl
mutual
theorem qBm (e:List (Nat×V)):∀(v:V) (s:St),V.fzI v (s.re e)=mp (V.fzI v s) fun r=>(r.1,r.2.re e)
 | .lst true _ _,s=>by simp[V.fzI,mp]
 | .lst false a b,s=>by simp only[V.fzI];exact zBc e _ s
 | .agg xs,s=>by
  simp only[V.fzI,zVu e xs s];cases V.fzIL xs s<;>simp[mp]
 | .int a b,s=>by simp only[V.fzI];exact zBc e _ s
 | .bool a,s=>by simp only[V.fzI];exact zBc e _ s
 | .str a,s=>by simp only[V.fzI];exact zBc e _ s
 | .emp a,s=>by simp only[V.fzI];exact zBc e _ s
 | .ref a b c,s=>by simp only[V.fzI];exact zBc e _ s
 | .plc a b c d f,s=>by simp only[V.fzI];exact zBc e _ s
 | .tup a,s=>by simp only[V.fzI];exact zBc e _ s
 | .und,s=>by simp only[V.fzI];exact zBc e _ s
 | .ptr a b c,s=>by simp only[V.fzI];exact zBc e _ s
 | .vptr a,s=>by simp only[V.fzI];exact zBc e _ s
 | .clo a b,s=>by simp only[V.fzI];exact zBc e _ s
 | .iol a b,s=>by simp only[V.fzI];exact zBc e _ s
 | .iop a,s=>by simp only[V.fzI];exact zBc e _ s
theorem zVu (e:List (Nat×V)):∀(l:List V) (s:St),V.fzIL l (s.re e)=mp (V.fzIL l s) fun r=>(r.1,r.2.re e)
 | [],s=>rfl
 | x::r,s=>by
  simp only[V.fzIL,qBm e x s];cases x.fzI s with
  | none=>rfl
  | some a =>
   simp only[mp,Option.map_some]
   have:=zVu e r a.2
   rw[this];cases V.fzIL r a.2<;>simp[mp]
end
theorem zP1 (e:List (Nat×V)):∀(l:List V) (i:Nat) (s:St),xT i l (s.re e)=xT i l s
 | [],_,_=>rfl
 | v::r,i,s=>by
  have ih:=zP1 e r (i+1);cases v with
  | iol sz xs =>
   simp only[xT];cases zO s.obs i with
   | none=>rfl
   | some ob =>
    simp only;rw[show xT (i+1) r { s.re e with obs:=kT s.obs i } = xT (i+1) r { s with obs:=kT s.obs i } from ih { s with obs:=kT s.obs i }]
  | iop x =>
   simp only[xT];cases zO s.obs i with
   | none=>rfl
   | some ob =>
    simp only;cases ob.xs with
    | nil=>rfl
    | cons y l =>
     cases l with
     | nil =>
      simp only;rw[show y.fzI { s.re e with obs:=kT s.obs i } = _ from qBm e y { s with obs:=kT s.obs i }];cases y.fzI { s with obs:=kT s.obs i } with
      | none=>rfl
      | some a=>simp only[mp,Option.map_some,ih a.2]
     | cons _ _=>rfl
  | _=>exact ih s
mutual
theorem zNa (e:List (Nat×V)) (s:St):∀v:V,V.snap (s.re e) v=V.snap s v
 | .int ..=>rfl
 | .bool _=>rfl
 | .str _=>rfl
 | .lst ..=>rfl
 | .emp _=>rfl
 | .agg xs=>by simp only[V.snap,zJk e s xs]
 | .ref ..=>rfl
 | .plc ..=>rfl
 | .vptr _=>rfl
 | .tup _=>rfl
 | .und=>rfl
 | .ptr ..=>rfl
 | .clo ..=>rfl
 | .iol ..=>rfl
 | .iop _=>rfl
theorem zJk (e:List (Nat×V)) (s:St):∀l:List V,V.snapL (s.re e) l=V.snapL s l
 | []=>rfl
 | x::r=>by simp only[V.snapL,zNa e s x,zJk e s r]
end
theorem zPg (e:List (Nat×V)) (s:St) (v:V):V.snapP (s.re e) v=V.snapP s v:=by
 unfold V.snapP;split
 ·simp only[zNa]
 ·exact zNa e s _
theorem zMy (e:List (Nat×V)) (s:St):∀l:List V,V.snapPL (s.re e) l=V.snapPL s l
 | []=>rfl
 | x::r=>by simp only[V.snapPL,zPg e s x,zMy e s r]
theorem zZx (e:List (Nat×V)) (s:St) (v:V):V.snapA (s.re e) v=V.snapA s v:=by
 unfold V.snapA;split
 ·simp only[zMy]
 ·exact zPg e s _
theorem zK3 (e:List (Nat×V)) (s:St):∀(m:List Md) (l:List V),jI (s.re e) m l=jI s m l
 | _,[]=>rfl
 | m,v::r=>by simp only[jI,zZx e s v,zK3 e s m.tail r]
theorem qNe (s:St) (k:IntKind) (a:Int):V.snapA s (.int k a)=some (.int k a):=rfl
theorem qFb (s:St) (a:Bool):V.snapA s (.bool a)=some (.bool a):=rfl
theorem qN7 (s:St) (a:Bool) (b:Nat) (xs:List V):V.snapA s (.lst a b xs)=some (.lst false 0 (V.shareL xs)):=rfl
theorem qJy (s:St) (a:Bool):V.snapA s (.emp a)=some (.lst false 0 []):=rfl
theorem qMy (s:St) (xs:List V):V.snapA s (.agg xs)=mp (V.snapL s xs) .agg:=rfl
theorem qMk (s:St) (o lo n:Nat):V.snapA s (.ref o lo n)=mp (zMm s.obs o lo n) fun r=>.lst false 0 (V.shareL r.2):=rfl
theorem qLv (s:St) (o i:Nat) (fs:List Nat) (ver n:Nat):V.snapA s (.plc o i fs ver n)=mp (s.at o i fs ver n) fun a=>.lst false 0 (V.shareL a.2.1):=rfl
theorem qDt (s:St) (x:V):V.snapA s (.vptr x)=some (.vptr x):=rfl
theorem qI3 (s:St) (f:FuncId) (cs:List V):V.snapA s (.clo f cs)=mp (V.snapPL s cs) (.clo f):=rfl
theorem qL4 (s:St) (o i:Nat) (fs:List Nat):V.snapA s (.ptr o i fs)=V.snapP s (.ptr o i fs):=rfl
theorem qMm (s:St) (k:IntKind) (a:Int):V.snapP s (.int k a)=some (.int k a):=rfl
theorem qCq (s:St) (a:Bool):V.snapP s (.bool a)=some (.bool a):=rfl
theorem qMo (s:St) (a:Bool) (b:Nat) (xs:List V):V.snapP s (.lst a b xs)=some (.lst false 0 (V.shareL xs)):=rfl
theorem qK0 (s:St) (a:Bool):V.snapP s (.emp a)=some (.lst false 0 []):=rfl
theorem qNg (s:St) (xs:List V):V.snapP s (.agg xs)=mp (V.snapL s xs) .agg:=rfl
theorem qNh (s:St) (o lo n:Nat):V.snapP s (.ref o lo n)=mp (zMm s.obs o lo n) fun r=>.lst false 0 (V.shareL r.2):=rfl
theorem qM3 (s:St) (o i:Nat) (fs:List Nat) (ver n:Nat):V.snapP s (.plc o i fs ver n)=mp (s.at o i fs ver n) fun a=>.lst false 0 (V.shareL a.2.1):=rfl
theorem qEl (s:St) (x:V):V.snapP s (.vptr x)=some (.vptr x):=rfl
theorem qKx (s:St) (o i:Nat) (fs:List Nat):V.snapP s (.ptr o i fs)=match zO s.obs o with|none=>none|some ob=>match ob.get i fs with|none=>none|some x=>if ob.bx=true\/x.mention.isEmpty=true then mp (x.snap s) .vptr else none:=rfl
end Go.Proofs.YtbcgenkegnmkhaaGreat.Ev
namespace Go.Proofs.YtbcgenkegnmkhaaGreat.Ev
open Go
set_option maxRecDepth 100000
theorem qA {f:FuncId} {fn:Func} {body:Code} {args:List V} {x:V×List V} {e:List (Nat×V)} {o:List (Nat×Ob)} {n:Nat} (hn:qH6 f=false) (hf:cf.code f=some fn) (hb:fn.body=some body) (hl:args.length=n) (hl2:n=fn.params.size+fn.nfree) (he:(zQ 0 args).1=e) (ho:(zQ 0 args).2=o)
  (h:wpC oc cf f body ⟨e,o,n⟩ (fun e s=>(e = .normal\/e = .ret)/\∃vs,zEz cf s fn.results.toList=some vs/\∃r,V.fzL vs ⟨[],s.obs,s.nxt⟩=r/\∃q,r=some q/\∃os,xT 0 args q.2=some os/\(zFi q.1,os)=x)) (hh:hsT f=false:=by rfl):oc.call f args=some x:=by
 unfold cf oc at *;subst hl he ho;refine qIz hn hh hf hb hl2 ?_;obtain⟨r,h1,h2,vs,h3,q,h4,u,h5,os,h6,h7⟩:=h;refine⟨r,h1,h2,vs,h3,(u.1,u.2.re r.2.env),?_,os,?_,h7⟩
 ·have:=zKt r.2.env vs ⟨[],r.2.obs,r.2.nxt⟩
  rw[h4,h5] at this;exact this
 ·rw[zP1];exact h6
theorem zCx {f:FuncId} {fn:Func} {body:Code} {args:List V} {x:V×List V} {e:List (Nat×V)} {o:List (Nat×Ob)} {n:Nat} (hf:cf.code f=some fn) (hb:fn.body=some body) (hl:args.length=n) (hl2:n=fn.params.size+fn.nfree) (he:(zQ 0 args).1=e) (ho:(zQ 0 args).2=o)
  (h:wpC oc cf f body ⟨e,o,n⟩ (fun e s=>(e = .normal\/e = .ret)/\∃vs,zEz cf s fn.results.toList=some vs/\∃r,V.fzL vs ⟨[],s.obs,s.nxt⟩=r/\∃q,r=some q/\∃os,xT 0 args q.2=some os/\(zFi q.1,os)=x)):vW oc cf f args=some x:=by
 subst hl he ho;obtain⟨r,h1,h2,vs,h3,q,h4,u,h5,os,h6,h7⟩:=h
 have h4':V.fzL vs r.2=some (u.1,u.2.re r.2.env):=by
  have:=zKt r.2.env vs ⟨[],r.2.obs,r.2.nxt⟩
  rw[h4,h5] at this;exact this
 have h6':xT 0 args (u.2.re r.2.env)=some os:=by rw[zP1];exact h6
 unfold vW;simp only[hf,hb,if_pos hl2,h1,if_pos h2,h3,h4',h6',zJ,h7]
theorem zDv {f:FuncId} {args:List V} {x:V×List V} (hn:qH6 f=false) (hh:hsT f=true) (h:vW oc cf f args=some x) (hf:fsT f=false:=by rfl):oc.call f args=some (x.1.half,x.2):=by
 unfold cf oc at *;exact zZ7 h hn hh hf
theorem qJm {f:FuncId} {args:List V} {x:V×List V} (hn:qH6 f=false) (hh:hsT f=true) (hf:fsT f=true) (h:vW oc cf f args=some x):oc.call f args=some (x.1.full,x.2):=by
 unfold cf oc at *;exact zYv h hn hh hf
theorem qJ5 {f:FuncId} {sz:Nat} {xs:List V} {x:V×List V} (hn:qH6 f=true) (h:xs≠[]->vW oc cf f [.lst false sz xs]=some x) (h1:xs=[]->vW oc cf f [.emp true]=some x) (h2:xs=[]->vW oc cf f [.emp false]=some x):oc.call f [.lst false sz xs]=some x:=by
 unfold cf oc at *;exact zO6 hn h h1 h2
theorem zP {ex:Ext} (np:Nat) (out:Option (List Nat)) {s s1:St} {r:Ext×St} (h1:zH np out s=s1) (h2:(ex,s1)=r):(ex,zH np out s)=r:=by subst h1;exact h2
theorem zM {cfg:Cfg} {s:St}:zEz cfg s []=some []:=rfl
theorem zL {cfg:Cfg} {s:St} {t:Nat} {l:List ResultVar} {v:V} {vs:List V} (h:opV s.env (.tmp t)=some v) (h2:zEz cfg s l=some vs):zEz cfg s (.tmp t::l)=some (v::vs):=by
 simp only[zEz,qGw,h,h2,zJ]
theorem vY {cfg:Cfg} {e:List (Nat×V)} {o:List (Nat×Ob)} {n:Nat} {t:Nat} {ty:TypeId} {l:List ResultVar} {z vx v:V} {vs:List V} {r:Option V} (hz:cfg.zero ty=some z) (h:opV e (.tmp t)=some vx) (hv:zCz ⟨[],o,n⟩ z vx=r) (hr:r=some v) (h2:zEz cfg ⟨e,o,n⟩ l=some vs):zEz cfg ⟨e,o,n⟩ (.cell t ty::l)=some (v::vs):=by
 have:zCz ⟨e,o,n⟩ z vx=some v:=by
  rw[<-hr,<- hv];cases vx<;>rfl
 simp only[zEz,qGw,h,hz,h2,zJ,this]
theorem qD {f k:Nat} {fn:Func} {body full:Code} {s s0:St} {r:Ext×St} (hf:cf.code f=some fn) (hb:fn.body=some full) (hk:qC k full=some body) (hs:zH (fn.params.size+fn.nfree) (qC3 f k) s=s0)
  (h:wpC oc cf f body s0 (fun e s'=>match e with
   | .normal=>oc.loop f k s'=some r
   | e=>(e,zH (fn.params.size+fn.nfree) (outT f k) s')=r)):oc.loop f k s=some r:=by
 unfold cf oc at *;exact zY0 hf hb hk hs h
theorem zV {σ:Type} {f k np:Nat} {keep:Option (List Nat)} (μ:σ->Nat) (P:σ->Prop) (H:σ->St) (R:σ->Ext×St)
  (step:∀x,P x->(∀y,P y->μ y<μ x->∀s',zH np keep s'=H y->oc.loop f k s'=some (R y))->∀s,zH np keep s=H x->oc.loop f k s=some (R x)) :
  ∀x,P x->∀s,zH np keep s=H x->oc.loop f k s=some (R x):=by
 have key:∀m x,μ x<m->P x->∀s,zH np keep s=H x->oc.loop f k s=some (R x):=by
  intro m
  induction m with
  | zero=>intro x h;omega
  | succ m ih=>intro x h hp;exact step x hp (fun y hy hm=>ih y (by omega) hy)
 intro x;exact key (μ x+1) x (by omega)
theorem qY {fn:FuncId} {b:Code} {s:St} {Q:Ext->St->Prop} {c:Prop} [Decidable c] {e1 e2:Ext} {s1 s2:St} (h:oc.loop fn (zB4 b) s=some (if c then(e1,s1) else(e2,s2))) (h1:c->Q e1 s1) (h2:¬c->Q e2 s2):wpC oc cf fn (.loop b) s Q:=by
 by_cases hc:c
 ·rw[if_pos hc] at h;exact⟨_,h,h1 hc⟩
 ·rw[if_neg hc] at h;exact⟨_,h,h2 hc⟩
section
variable {call : Call} {cfg : Cfg} {id base : Nat} {e : List (Nat × V)} {o : List (Nat × Ob)} {n : Nat} {t : TypeId} {K : V->List (Nat × Ob)->Prop}
theorem zOh {args:Array Operand} {ts:Array TypeId} {fo:Operand} {f:FuncId} {cs vs qs:List V} {sr:Option (List V)} {rv v:V} {ro:List V} {o1:List (Nat×Ob)} {id':Nat} (hx:kW e args.toList=some vs) (hf:opV e fo=some (.clo f cs)) (hB:cfg.inB f=false) (hk:V.capsOk cs=true) (hl:jW (cfg.md f) (vs++cs) ⟨e,o,n⟩=some (vs++cs,⟨e,o,n⟩,[]))
  (hs:jI ⟨[],o,n⟩ (cfg.md f) (vs++cs)=sr) (hsr:sr=some qs) (hc:call f qs=some (rv,ro)) (hro:ro=[]) (hid:id=id') (hw:((xU (cfg.md f) (vs++cs)).isEmpty=true\/rv.tidy=true/\V.tidyL ro=true)/\(rv.thaw id').2.2<=id'+32) (hv:(rv.thaw id').1=v) (ho:(rv.thaw id').2.1++o=o1)
  (h:K v o1):opK call cfg id base e o n t (.call ⟨.value fo,args,ts⟩) K:=by
 subst hro hv ho
 have hs:jI ⟨e,o,n⟩ (cfg.md f) (vs++cs)=some qs:=by
  have:=zK3 e ⟨[],o,n⟩ (cfg.md f) (vs++cs)
  rw[hs,hsr] at this;exact this
 exact zQ2 hx hf hB hk hl hs hc hid hw rfl rfl h
theorem zK0 {t' el:TypeId} {x ix:Operand} {k:IntKind} {a:Int} {q lo m j:Nat} {ob:Ob} {z y:V} (he:cfg.elem t'=some el) (hz:cfg.zero el=some z) (hx:opV e x=some (.ref q lo m)) (hi:opV e ix=some (.int k a)) (ho:zO o q=some ob) (hb:ob.bx=false) (h0:0<=a) (hj:lo+a.toNat=j) (hm:a.toNat<m)
  (hy:ob.xs[j]? = some y) (hc:y.cells=z.cells) (h:K (.ptr q j []) o):opK call cfg id base e o n t (.indexAddr t' x ix) K:=by
 subst hj;exact zYu he hz hx hi ho hb h0 hm hy hc h
theorem zYd {t':TypeId} {x y:Operand} {z vx vy:V} {o':List (Nat×Ob)} {r:Option St} (hz:cfg.zero t'=some z) (hx:opV e x=some vx) (hy:opV e y=some vy) (hv:xJ ⟨[],o,n⟩ z vx vy=r) (hr:r=some ⟨[],o',n⟩) (h:K .und o'):opK call cfg id base e o n t (.store t' x y) K:=by
 refine zOb hz hx hy ?_ h
 have:=zZ0 e ⟨[],o,n⟩ z vy vx
 rw[hv,hr] at this;exact this
theorem zQi {t':TypeId} {x y:Operand} {z vy old old1 w:V} {q i v:Nat} {ob ob1:Ob} {ws:List V} {o1:List (Nat×Ob)} {r:Option (V×St)} (hz:cfg.zero t'=some z) (hx:opV e x=some (.ptr q i [])) (hy:opV e y=some vy) (ho:zO o q=some ob) (hb:ob.bx=false) (hg:ob.xs[i]? = some old) (ha:old.alike vy=true) (hz2:z.alike vy=true)
  (hf:vy.fz ⟨[],o,n⟩=r) (hr:r=some (w,⟨[],o1,n⟩)) (ho1:zO o1 q=some ob1) (hg1:ob1.xs[i]? = some old1) (ha1:old1.alike w=true) (hs:ob1.xs.set i w=ws) (hv:(if(old1.scal&&vy.scal)=true then ob1.ver else ob1.ver+1)=v)
  (h:K .und ((q,⟨ob1.bx,ob1.fx,ob1.sz,ws,v⟩)::o1)):opK call cfg id base e o n t (.store t' x y) K:=by
 subst hr hs hv
 have hf:vy.fz ⟨e,o,n⟩=some (w,⟨e,o1,n⟩):=by
  have:=zBc e vy ⟨[],o,n⟩
  rw[hf] at this;exact this
 refine zOb hz hx hy ?_ h;simp only[xJ,ho,Ob.get,hg,kS,ha,hz2,and_self,if_true,hb,Bool.false_eq_true,if_false,hf,ho1,hg1,ha1,Ob.set,zCv,zJ,xC]
theorem zIe {α:Type} {l:List α} {i:Nat} {x y:α} (h:l[i]? = some x):(l.set i y)[i]? = some y:=by
 have:=(List.getElem?_eq_some_iff.1 h).1
 simp[this]
theorem zW3 {t':TypeId} {x:Operand} {z y y0 w:V} {q i:Nat} {fs:List Nat} {ob:Ob} (hz:cfg.zero t'=some z) (hx:opV e x=some (.ptr q i fs)) (ho:zO o q=some ob) (hg:ob.xs[i]? = some y0) (hgf:kS y0 fs=some y) (hu:y≠.und) (ha:z.alike y=true) (hl:y.lod q i ob.ver fs=w) (h:K w o):opK call cfg id base e o n t (.load t' x) K:=by
 subst hl;refine zR2 hz hx ?_ h;cases y<;>first|exact absurd rfl hu|simp only[zCz,ho,Ob.get,hg,hgf,ha,if_true]
theorem zF7 {t':TypeId} {x:Operand} {i k j:Nat} {fs:List Nat} {ob:Ob} {y y0:V} (hx:opV e x=some (.ptr k j fs)) (ho:zO o k=some ob) (hg:ob.xs[j]? = some y0) (hgf:kS y0 fs=some y) (hf:jX cfg t' y i=true) (h:K (.ptr k j (fs++[i])) o):opK call cfg id base e o n t (.fieldAddr t' x i) K :=
 zF0 hx ho (show ob.get j fs=some y by simp only[Ob.get,hg,hgf]) hf h
theorem zXz {t':TypeId} {x y:Operand} {z vy old x0 x1:V} {q i:Nat} {fs:List Nat} {ob:Ob} {ws:List V} (hz:cfg.zero t'=some z) (hx:opV e x=some (.ptr q i fs)) (hy:opV e y=some vy) (ho:zO o q=some ob) (hb:ob.bx=false) (hg:ob.xs[i]? = some x0) (hgf:kS x0 fs=some old) (ha:old.alike vy=true) (hz2:z.alike vy=true)
  (hs1:old.scal=true) (hs2:vy.scal=true) (hsf:zCv x0 fs vy=some x1) (hs:ob.xs.set i x1=ws) (h:K .und ((q,⟨false,ob.fx,ob.sz,ws,ob.ver⟩)::o)):opK call cfg id base e o n t (.store t' x y) K:=by
 subst hs;refine zOb hz hx hy ?_ h;simp only[xJ,ho,Ob.get,hg,hgf,ha,hz2,and_self,if_true,hb,Bool.false_eq_true,if_false,zOn hs2,Ob.set,hsf,zJ,xC,hs1,hs2,Bool.and_self]
theorem qF8 {t':TypeId} {x:Operand} {z vx v:V} {r:Option V} (hz:cfg.zero t'=some z) (hx:opV e x=some vx) (hv:zCz ⟨[],o,n⟩ z vx=r) (hr:r=some v) (h:K v o):opK call cfg id base e o n t (.load t' x) K:=by
 refine zR2 hz hx ?_ h;rw[<-hr,<- hv];cases vx<;>rfl
theorem qEy {t':TypeId} {x:Operand} {z y w:V} {q i:Nat} {ob:Ob} (hz:cfg.zero t'=some z) (hx:opV e x=some (.ptr q i [])) (ho:zO o q=some ob) (hg:ob.xs[i]? = some y) (hu:y≠.und) (ha:z.alike y=true) (hl:y.lod q i ob.ver []=w) (h:K w o):opK call cfg id base e o n t (.load t' x) K:=by
 subst hl;refine zR2 hz hx ?_ h;cases y<;>first|exact absurd rfl hu|simp only[zCz,ho,Ob.get,hg,kS,ha,if_true]
theorem zMf {args:Array Operand} {ts:Array TypeId} {t1 t2 e1 e2:TypeId} {x y z:V} {ys ws bs:List V} {r1:Option (List V×St)} {r2:Option (Nat×List V×St)} {sz:Nat} {o1 o2:List (Nat×Ob)} {id' m:Nat} (hx:kW e args.toList=some [x,y]) (h1:ts[0]? = some t1) (h2:ts[1]? = some t2) (he1:cfg.elem t1=some e1) (hz:cfg.zero e1=some z) (he2:cfg.elem t2=some e2)
  (hel:St.elems ⟨[],o,n⟩ base y=r1) (hel2:r1=some (ys,⟨[],o1,n⟩)) (hb:St.base ⟨[],o1,n⟩ (x.asRow z.cells)=r2) (hb2:r2=some (sz,bs,⟨[],o2,n⟩)) (hid:id=id') (hsz:sz=z.cells) (hc:V.cellsAll z.cells ys=true) (hw:bs++ys=ws) (hm:ws.length=m) (hlen:m<zCe)
  (h:K (.ref id' 0 m) ((id',⟨false,false,z.cells,ws,0⟩)::o2)):opK call cfg id base e o n t (.call ⟨.builtin .append,args,ts⟩) K:=by
 subst hw hm
 have h3:St.elems ⟨e,o,n⟩ base y=some (ys,⟨e,o1,n⟩):=by
  have:=zYo e ⟨[],o,n⟩ base y
  rw[hel,hel2] at this;exact this
 have h4:St.base ⟨e,o1,n⟩ (x.asRow z.cells)=some (sz,bs,⟨e,o2,n⟩):=by
  have:=qBu e ⟨[],o1,n⟩ (x.asRow z.cells)
  rw[hb,hb2] at this;exact this
 exact zYa (b:=(sz,bs,⟨e,o2,n⟩)) hx h1 h2 he1 hz he2 h3 h4 rfl hid hsz hc hlen h
theorem zJy {t' el:TypeId} {m:Nat} {ps:Array (Nat×Operand)} {z:V} {l:List (Nat×V)} {ys:List V} {o1:List (Nat×Ob)} {id':Nat} {r:Option (List V×St)} (he:cfg.elem t'=some el) (hz:cfg.zero el=some z) (hp:xE e ps.toList=some l) (hc:l.map (·.1)=List.range m/\m * z.cells<=16777216/\l.all (fun e=>z.alike e.2)=true)
  (hf:V.fzL (l.map (·.2)) ⟨[],o,n⟩=r) (hr:r=some (ys,⟨[],o1,n⟩)) (hid:id=id') (h:K (.ref id' 0 m) ((id',⟨false,false,z.cells,ys,0⟩)::o1)):opK call cfg id base e o n t (.buildSlice t' m ps) K :=
 zN2 he hz hp hc (by
  have:=zKt e (l.map (·.2)) ⟨[],o,n⟩
  rw[hf,hr] at this
  exact this) hid h
end
theorem qMx (i:Nat):zQ i []=([],[]):=rfl
theorem qN0 (i:Nat) (k:IntKind) (a:Int) (r:List V):zQ i (.int k a::r)=((i,.int k a)::(zQ (i+1) r).1,(zQ (i+1) r).2):=rfl
theorem qG2 (i:Nat) (a:Bool) (r:List V):zQ i (.bool a::r)=((i,.bool a)::(zQ (i+1) r).1,(zQ (i+1) r).2):=rfl
theorem qD9 (i:Nat) (s:Nat) (xs:List V) (r:List V):zQ i (.lst false s xs::r)=((i,.lst false s xs)::(zQ (i+1) r).1,(zQ (i+1) r).2):=rfl
theorem qCa (i:Nat) (s:Nat) (xs:List V) (r:List V):zQ i (.lst true s xs::r)=((i,.ref i 0 xs.length)::(zQ (i+1) r).1,(i,⟨false,false,s,xs,0⟩)::(zQ (i+1) r).2):=rfl
theorem qN4 (i:Nat) (s:Nat) (xs:List V) (r:List V):zQ i (.iol s xs::r)=((i,.ref i 0 xs.length)::(zQ (i+1) r).1,(i,⟨false,true,s,xs,0⟩)::(zQ (i+1) r).2):=rfl
theorem qN1 (i:Nat) (x:V) (r:List V):zQ i (.iop x::r)=((i,.ptr i 0 [])::(zQ (i+1) r).1,(i,⟨true,false,x.cells,[x],0⟩)::(zQ (i+1) r).2):=rfl
theorem qMp (i:Nat) (xs:List V) (r:List V):zQ i (.agg xs::r)=((i,.agg xs)::(zQ (i+1) r).1,(zQ (i+1) r).2):=rfl
theorem qMh (i:Nat) (f:FuncId) (xs:List V) (r:List V):zQ i (.clo f xs::r)=((i,.clo f xs)::(zQ (i+1) r).1,(zQ (i+1) r).2):=rfl
theorem qEn (i:Nat) (x:V) (r:List V):zQ i (.vptr x::r)=((i,.vptr x)::(zQ (i+1) r).1,(zQ (i+1) r).2):=rfl
theorem zDu {i:Nat} (h:i<4611686018427387904):IntKind.i64.wrap (i:Int)=i:=by
 unfold IntKind.wrap;simp[IntKind.bits,IntKind.signed];omega
theorem zU {i:Nat} (h:i<4611686018427387903):IntKind.i64.wrap ((i:Int)+1)=((i+1:Nat):Int):=zDu (i:=i+1) (by omega)
theorem qL {a:Int} (h1:-4611686018427387904<=a) (h2:a<4611686018427387904):IntKind.i64.wrap a=a:=by
 unfold IntKind.wrap;simp[IntKind.bits,IntKind.signed];omega
def inI (a b c:Int):Bool:=decide (b<=a)&&decide (a<=c)
def ints (l:List Int):List V:=l.map (.int .i64)
@[simp] theorem zPh (l:List Int):(ints l).length=l.length:=by simp[ints]
@[simp] theorem ints_nil:ints []=[]:=rfl
@[simp] theorem qKu (x:Int) (l:List Int):ints (x::l) = .int .i64 x::ints l:=rfl
@[simp] theorem qHy (l:List Int) (x:Int):ints l++[.int .i64 x]=ints (l++[x]):=by simp[ints]
@[simp] theorem qI0 (l m:List Int):ints l++ints m=ints (l++m):=by simp[ints]
theorem zFs {l:List Int} {i:Nat} {x:Int} (h:l[i]? = some x):(ints l)[i]? = some (.int .i64 x):=by simp[ints,h]
theorem zNc {l:List Int} {i:Nat} (h:i<l.length):(ints l)[(i:Int).toNat]? = some (.int .i64 l[i]):=zFs (by simp[h])
theorem kJ {l:List Int} {i:Nat} (h:i<l.length):∃x,l[i]? = some x/\l.drop i=x::l.drop (i+1)/\(ints l)[(i:Int).toNat]? = some (.int .i64 x) :=
 ⟨l[i],by simp[h],List.drop_eq_getElem_cons h,zNc h⟩
@[simp] theorem ints_set (l:List Int) (i:Nat) (x:Int):(ints l).set i (.int .i64 x)=ints (l.set i x):=by simp[ints,List.map_set]
@[simp] theorem zX9 (m:Nat) (x:Int):List.replicate m (V.int .i64 x)=ints (List.replicate m x):=by simp[ints]
@[simp] theorem qLc (n:Nat) (l:List Int):(ints l).take n=ints (l.take n):=by simp[ints,List.map_take]
@[simp] theorem qId (n:Nat) (l:List Int):(ints l).drop n=ints (l.drop n):=by simp[ints,List.map_drop]
@[simp] theorem zBz (l:List Int):V.shareL (ints l)=ints l:=by
 induction l with
 | nil=>rfl
 | cons x l ih=>simp[V.shareL,V.share,ih]
structure Nd where
 op:Int
 a:Int
 b:Int
 col:Int
 test:Int
 value:Int
 cells:List Int
 deriving DecidableEq
theorem Nd.eq_iff {d g:Nd}:d=g↔d.op=g.op/\d.a=g.a/\d.b=g.b/\d.col=g.col/\d.test=g.test/\d.value=g.value/\d.cells=g.cells:=by
 cases d;cases g;simp
def Nd.v (t:Bool) (s:Nat) (n:Nd):V:=.agg [.int .i64 n.op,.int .i64 n.a,.int .i64 n.b,.int .i64 n.col,.int .i64 n.test,.int .i64 n.value,.lst t s (ints n.cells)]
def nds (t:Bool) (s:Nat) (l:List Nd):List V:=l.map (Nd.v t s)
@[simp] theorem nds_len (t:Bool) (s:Nat) (l:List Nd):(nds t s l).length=l.length:=by simp[nds]
@[simp] theorem nds_nil (t:Bool) (s:Nat):nds t s []=[]:=rfl
@[simp] theorem zRe (t:Bool) (s:Nat) (x:Nd) (l:List Nd):nds t s (x::l)=x.v t s::nds t s l:=rfl
@[simp] theorem qA3 (t:Bool) (s:Nat) (l:List Nd) (x:Nd):nds t s l++[x.v t s]=nds t s (l++[x]):=by simp[nds]
theorem zBb {t:Bool} {s:Nat} {l:List Nd} {i:Nat} {x:Nd} (h:l[i]? = some x):(nds t s l)[i]? = some (x.v t s):=by simp[nds,h]
theorem qKt {t:Bool} {s:Nat} {l:List Nd} {i:Nat} (h:i<l.length):(nds t s l)[(i:Int).toNat]? = some (l[i].v t s):=zBb (by simp[h])
theorem zJd {t:Bool} {s:Nat} {l:List Nd} {i:Nat} (h:i<l.length):∃x,l[i]? = some x/\l.drop i=x::l.drop (i+1)/\(nds t s l)[(i:Int).toNat]? = some (x.v t s) :=
 ⟨l[i],by simp[h],List.drop_eq_getElem_cons h,qKt h⟩
@[simp] theorem Nd.share (t:Bool) (s:Nat) (n:Nd):(n.v t s).share=n.v false 0:=by simp[Nd.v,V.share,V.shareL]
@[simp] theorem Nd.snap (t:Bool) (s:Nat) (n:Nd) (q:St):V.snap q (n.v t s)=some (n.v false 0):=by simp[Nd.v,V.snap,V.snapL,mp]
@[simp] theorem Nd.snapA (t:Bool) (s:Nat) (n:Nd) (q:St):V.snapA q (n.v t s)=some (n.v false 0):=Nd.snap t s n q
@[simp] theorem Nd.snapP (t:Bool) (s:Nat) (n:Nd) (q:St):V.snapP q (n.v t s)=some (n.v false 0):=Nd.snap t s n q
@[simp] theorem Nd.mention (t:Bool) (s:Nat) (n:Nd):V.mention (n.v t s)=[]:=by simp[Nd.v,V.mention,V.mentionL]
theorem Nd.thawT (s:Nat) (n:Nd) (id:Nat):V.thaw id (n.v true s)=(.agg [.int .i64 n.op,.int .i64 n.a,.int .i64 n.b,.int .i64 n.col,.int .i64 n.test,.int .i64 n.value,.ref id 0 n.cells.length],[(id,⟨false,false,s,ints n.cells,0⟩)],id+1):=by simp[Nd.v,V.thaw,V.thawL]
theorem Nd.thawF (s:Nat) (n:Nd) (id:Nat):V.thaw id (n.v false s)=(n.v false s,[],id):=by simp[Nd.v,V.thaw,V.thawL]
theorem zLr (l:List Int):V.tidyL (ints l)=true:=by
 induction l with
 | nil=>rfl
 | cons x l ih=>simp[V.tidyL,V.tidy,ih]
attribute [simp] Nd.thawT Nd.thawF zLr
@[simp] theorem nds_setA (t:Bool) (s:Nat) (q:List Nd) (i:Nat) (a b c d e f:Int) (l:List Int):(nds t s q).set i (V.agg [.int .i64 a,.int .i64 b,.int .i64 c,.int .i64 d,.int .i64 e,.int .i64 f,.lst t s (ints l)])=nds t s (q.set i ⟨a,b,c,d,e,f,l⟩):=by simp[nds,Nd.v,List.map_set]
@[simp] theorem nds_take (t:Bool) (s n:Nat) (l:List Nd):(nds t s l).take n=nds t s (l.take n):=by simp[nds,List.map_take]
@[simp] theorem nds_drop (t:Bool) (s n:Nat) (l:List Nd):(nds t s l).drop n=nds t s (l.drop n):=by simp[nds,List.map_drop]
@[simp] theorem bA_nd (i:Nat) (t:Bool) (s:Nat) (n:Nd) (r:List V):zQ i (n.v t s::r)=((i,n.v t s)::(zQ (i+1) r).1,(zQ (i+1) r).2):=rfl
@[simp] theorem Nd.lodF (s:Nat) (n:Nd) (o i ver:Nat) (fs:List Nat):V.lod o i ver fs (n.v false s)=n.v false s:=by simp[Nd.v,V.lod,V.lodL]
@[simp] theorem Nd.accM (t:Bool) (s:Nat) (n:Nd):V.accM (n.v t s)=[]:=by simp[Nd.v,V.accM,V.accML]
@[simp] theorem Nd.accF (t:Bool) (s:Nat) (n:Nd):V.accF (n.v t s)=[]:=by simp[Nd.v,V.accF,V.accFL]
@[simp] theorem Nd.ren (t:Bool) (s:Nat) (n:Nd) (ρ:Nat->Option Nat) (vr:Nat->Nat):V.ren ρ vr (n.v t s)=n.v t s:=by simp[Nd.v,V.ren,V.renL]
@[simp] theorem qLt (t:Bool) (s:Nat) (l:List Nd):V.shareL (nds t s l)=nds false 0 l:=by
 induction l with
 | nil=>rfl
 | cons x l ih=>simp[V.shareL,ih]
@[simp] theorem Nd.cells_v (t:Bool) (s:Nat) (n:Nd):(n.v t s).cells=7:=rfl
end Go.Proofs.YtbcgenkegnmkhaaGreat.Ev
namespace Go.Proofs.YtbcgenkegnmkhaaGreat.Ev
open Go
set_option linter.unusedVariables false
set_option linter.unusedSectionVars false
set_option maxRecDepth 100000
section
variable {orc : Orc} {fn : FuncId} {s : St} {Q : Ext->St->Prop}
theorem zB {id:Nat} {ops:Array Oper} (h:wpO orc.call cf false ops.toList s.nxt 0 ops.toList s [] (qK5 Q)) (hal:cf.alR fn id=0:=by(rw[zZk];rfl)):wpC orc cf fn (.region id ops false) s Q:=zS5 hal h
theorem qE {id:Nat} {ops:Array Oper} (h:wpO orc.call cf true ops.toList s.nxt 0 ops.toList s [] (endD Q (s.nxt+32 * ops.toList.length) (yQ ops.toList 0 ops.toList []) (ops.toList.length - 1))) (hal:cf.alR fn id=0:=by(rw[zZk];rfl)):wpC orc cf fn (.region id ops true) s Q:=zYg hal h
end
section
variable {call : Call} {draw : Bool} {all rest : List Oper} {base i : Nat} {tr : List (List (Nat × Acc))} {Q : St->List (List (Nat × Acc))->Prop} {e : List (Nat × V)} {o : List (Nat × Ob)} {n : Nat} {d : Nat} {op : Op} {t : TypeId} {p : String} {af : Array Edge}
theorem w_ (h:opK call cf n base e o n t op (fun v o'=>wpO call cf false all base (i+1) rest ⟨(d,v)::e,o',n+32⟩ [] Q)):wpO call cf false all base i (⟨some d,op,t,p,af,none⟩::rest) ⟨e,o,n⟩ [] Q:=wo_k h
theorem w0 (h:opK call cf n base e o n t op (fun _ o'=>wpO call cf false all base (i+1) rest ⟨e,o',n+32⟩ [] Q)):wpO call cf false all base i (⟨none,op,t,p,af,none⟩::rest) ⟨e,o,n⟩ [] Q:=wo_k0 h
theorem y_ (h:opK call.noI cf (base+32 * i) base e o n t op (fun v o'=>∃ac,zC7 cf (base+32 * i) base ⟨e,o,n⟩ v op=ac/\wpO call cf true all base (i+1) rest ⟨(d,v)::e,o',n⟩ (ac::tr) Q)):wpO call cf true all base i (⟨some d,op,t,p,af,none⟩::rest) ⟨e,o,n⟩ tr Q:=wd_k h
theorem y0 (h:opK call.noI cf (base+32 * i) base e o n t op (fun v o'=>∃ac,zC7 cf (base+32 * i) base ⟨e,o,n⟩ v op=ac/\wpO call cf true all base (i+1) rest ⟨e,o',n⟩ (ac::tr) Q)):wpO call cf true all base i (⟨none,op,t,p,af,none⟩::rest) ⟨e,o,n⟩ tr Q:=wd_k0 h
theorem ax_ {id base:Nat} {s:St} {v:V} {op:Op} {ac:List (Nat×Acc)} {q:List (Nat×Acc)->Prop} (h1:zC7 cf id base s v op=ac:=by(simp[zB7,mdT];rfl)) (h:q ac):∃c,zC7 cf id base s v op=c/\q c:=⟨ac,h1,h⟩
theorem i_ {args:Array Operand} {ts:Array TypeId} {fo:Operand} {f:FuncId} {cs vs:List V} {v:V} {o':List (Nat×Ob)} {m m':Nat} (hx:kW e args.toList=some vs:=by exact rfl) (hf:opV e fo=some (.clo f cs):=by exact rfl) (hB:cf.inB f=true:=by(rw[zFc];rfl)) (hk:V.capsOk cs=true:=by exact rfl)
  (hc:call.i f (vs++cs) ⟨e,o,n⟩ n=some (v,⟨e,o',m⟩)) (hm:max n m+32=m':=by(simp;rfl)) (h:wpO call cf false all base (i+1) rest ⟨(d,v)::e,o',m'⟩ [] Q):wpO call cf false all base i (⟨some d,.call ⟨.value fo,args,ts⟩,t,p,af,none⟩::rest) ⟨e,o,n⟩ [] Q:=wo_i hx hf hB hk hc hm h
theorem g_ {j:Nat} {want b:Bool} {dd:Option Tmp} (hb:((all[j]?).bind (·.dst)).bind (zO e)=some (.bool b):=by exact rfl) (hw:b=want:=by first|exact rfl|assumption) (h:wpO call cf draw all base i (⟨dd,op,t,p,af,none⟩::rest) ⟨e,o,n⟩ tr Q):wpO call cf draw all base i (⟨dd,op,t,p,af,some (j,want)⟩::rest) ⟨e,o,n⟩ tr Q:=wo_on hb hw h
theorem go_ {j:Nat} {want b:Bool} (hb:((all[j]?).bind (·.dst)).bind (zO e)=some (.bool b):=by exact rfl) (hw:b=!want:=by first|exact rfl|assumption) (h:wpO call cf false all base (i+1) rest ⟨(d,.iop .und)::e,o,n+32⟩ [] Q):wpO call cf false all base i (⟨some d,op,t,p,af,some (j,want)⟩::rest) ⟨e,o,n⟩ tr Q:=qL8 hb hw h
theorem gd_ {j:Nat} {want b:Bool} (hb:((all[j]?).bind (·.dst)).bind (zO e)=some (.bool b):=by exact rfl) (hw:b=!want:=by first|exact rfl|assumption) (h:wpO call cf true all base (i+1) rest ⟨(d,.iop .und)::e,o,n⟩ ([]::tr) Q):wpO call cf true all base i (⟨some d,op,t,p,af,some (j,want)⟩::rest) ⟨e,o,n⟩ tr Q:=qMi hb hw h
theorem goN {j:Nat} {want:Bool} {y:V} (hb:((all[j]?).bind (·.dst)).bind (zO e)=some (.iop y):=by exact rfl) (h:wpO call cf false all base (i+1) rest ⟨(d,.iop .und)::e,o,n+32⟩ [] Q):wpO call cf false all base i (⟨some d,op,t,p,af,some (j,want)⟩::rest) ⟨e,o,n⟩ tr Q:=qC9 hb h
theorem gw_ {j:Nat} {want b:Bool} {dd:Option Tmp} (hb:((all[j]?).bind (·.dst)).bind (zO e)=some (.bool b):=by exact rfl)
  (h1:b=want->wpO call cf draw all base i (⟨dd,op,t,p,af,some (j,want)⟩::rest) ⟨e,o,n⟩ tr Q) (h2:b=!want->wpO call cf draw all base i (⟨dd,op,t,p,af,some (j,want)⟩::rest) ⟨e,o,n⟩ tr Q) :
  wpO call cf draw all base i (⟨dd,op,t,p,af,some (j,want)⟩::rest) ⟨e,o,n⟩ tr Q:=qC6 hb h1 h2
end
theorem qB7 {f:FuncId} {args:List V} {s:St} {id:Nat} {x:V×St} (hp:cf.plB f=false) (h:zPj oc.call cf f args s id=some x):oc.call.i f args s id=some x:=by
 unfold cf oc at *;exact qM9 hp h
theorem zTk {f:FuncId} {fn:Func} {body:Code} {args:List V} {e ev:List (Nat×V)} {o o':List (Nat×Ob)} {n id m:Nat} {v:V} (hp:cf.plB f=false) (hf:cf.code f=some fn) (hb:fn.body=some body) (hl:args.length=fn.params.size+fn.nfree) (he:zAl 0 args=ev)
  (h:wpC ⟨oc.call,yA oc.call cf 6⟩ cf f body ⟨ev,o,id⟩ (fun t s=>(t = .normal\/t = .ret)/\∃vs,zEz cf s fn.results.toList=some vs/\vs.all (fun v=>!v.isTup)=true/\(zFi vs,(⟨e,s.obs,s.nxt⟩:St))=(v,⟨e,o',m⟩))):oc.call.i f args ⟨e,o,n⟩ id=some (v,⟨e,o',m⟩):=by
 subst he;refine qB7 hp ?_;obtain⟨r,h1,h2,vs,h3,h4,h5⟩:=h;unfold zPj;simp only[hf,hb,if_pos hl,h1,if_pos h2,h3,if_pos h4,h5]
section
variable {all rest : List Oper} {base i : Nat} {Q : St->List (List (Nat × Acc))->Prop} {e : List (Nat × V)} {o : List (Nat × Ob)} {n : Nat} {d : Nat} {t : TypeId} {p : String} {af : Array Edge}
theorem iE {call:Call} {args:Array Operand} {ts:Array TypeId} {fo:Operand} {f:FuncId} {cs vs:List V} (hx:kW e args.toList=some vs:=by exact rfl) (hf:opV e fo=some (.clo f cs):=by exact rfl) (hB:cf.inB f=true:=by(rw[zFc];rfl)) (hk:V.capsOk cs=true:=by exact rfl)
  (h:∃v o' m,call.i f (vs++cs) ⟨e,o,n⟩ n=some (v,⟨e,o',m⟩)/\∃m',max n m+32=m'/\wpO call cf false all base (i+1) rest ⟨(d,v)::e,o',m'⟩ [] Q):wpO call cf false all base i (⟨some d,.call ⟨.value fo,args,ts⟩,t,p,af,none⟩::rest) ⟨e,o,n⟩ [] Q:=by
 obtain⟨v,o',m,hc,m',hm,h⟩:=h;exact i_ hx hf hB hk hc hm h
end
section
variable {call : Call} {id base : Nat} {e : List (Nat × V)} {o : List (Nat × Ob)} {n : Nat} {t : TypeId} {K : V->List (Nat × Ob)->Prop}
theorem qEw {op:Op} {v:V} (h1:opK call cf id base e o n t op (fun v' o'=>v'=v/\o'=o)) (h:K v o):opK call cf id base e o n t op K:=by
 obtain⟨v',o',h2,rfl,rfl⟩:=h1;exact⟨_,_,h2,h⟩
theorem m_ {x:Operand} {v:V} (hx:opV e x=some v:=by exact rfl) (hn:zHt x=false:=by exact rfl) (h:K v o):opK call cf id base e o n t (.move x) K:=qJa hx hn h
theorem a_ {x:Operand} {v:V} (hx:opV e x=some v:=by exact rfl) (hn:zHt x=false:=by exact rfl) (h:K v o):opK call cf id base e o n t (.assign x) K:=zXe hx hn h
theorem aP (h:K .und o):opK call cf id base e o n t (.assign (.const (.pointer none))) K:=qMv h
theorem aN {el:TypeId} {z:V} (he:cf.elem t=some el:=by exact tys_ok.elem _ _ rfl) (hz:cf.zero el=some z:=by exact tys_ok.zero _ _ rfl) (h:K (.lst true z.cells []) o):opK call cf id base e o n t (.assign (.const (.slice none 0 0))) K:=k_nil he hz h
theorem b_ {op:BinOp} {t' t2:TypeId} {x y:Operand} {k:IntKind} {a b:Int} {v:V} (hx:opV e x=some (.int k a):=by exact rfl) (hy:opV e y=some (.int k b):=by exact rfl) (hn:zHt y=false:=by exact rfl) (hv:zEy op k a b=some v:=by first|exact rfl|(simp only[zEy];rw[if_neg (by first|assumption|omega)])) (h:K v o):opK call cf id base e o n t (.binOp op t' x y t2) K:=qIl hx hy hn hv h
theorem bE {op:BinOp} {t' t2:TypeId} {x y:Operand} {v:V}
  (h1:opK call cf id base e o n t (.binOp op t' x y t2) (fun v' o'=>v'=v/\o'=o):=by
   first
   | exact qIl rfl rfl rfl rfl ⟨rfl,rfl⟩
   | exact qAn (tys_ok.zero _ _ rfl) rfl rfl rfl (.inl ⟨rfl,rfl⟩) ⟨rfl,rfl⟩
   | exact qAn (tys_ok.zero _ _ rfl) rfl rfl rfl (.inr ⟨rfl,rfl⟩) ⟨rfl,rfl⟩) (h:K v o):opK call cf id base e o n t (.binOp op t' x y t2) K:=qEw h1 h
theorem bN {op:BinOp} {t' t2:TypeId} {x y:Operand} {v:V}
  (h1:opK call cf id base e o n t (.binOp op t' x y t2) (fun v' o'=>v'=v/\o'=o):=by
   first
   | exact qC7 (tys_ok.elem _ _ rfl) rfl rfl ⟨rfl,rfl⟩
   | exact zY5 (tys_ok.elem _ _ rfl) rfl rfl (by assumption) ⟨rfl,rfl⟩) (h:K v o):opK call cf id base e o n t (.binOp op t' x y t2) K:=qEw h1 h
theorem sh {op:BinOp} {t' t2:TypeId} {x y:Operand} {vx vy v:V} (hx:opV e x=some vx:=by exact rfl) (hy:opV e y=some vy:=by exact rfl) (hn:zHt y=false:=by exact rfl) (ho:op = .shl\/op = .shr:=by simp) (hv:zF5 op vx vy=some v:=by exact rfl) (h:K v o):opK call cf id base e o n t (.binOp op t' x y t2) K:=qDj hx hy hn ho hv h
theorem u_ {op:UnOp} {t':TypeId} {x:Operand} {vx v:V} (hx:opV e x=some vx:=by exact rfl) (hv:unV op vx=some v:=by exact rfl) (h:K v o):opK call cf id base e o n t (.unOp op t' x) K:=k_un hx hv h
theorem l_ {t':TypeId} {x:Operand} {v:V}
  (h1:opK call cf id base e o n t (.load t' x) (fun v' o'=>v'=v/\o'=o):=by
   first
   | exact zR2 (tys_ok.zero _ _ rfl) rfl rfl ⟨rfl,rfl⟩
   | exact qEy (tys_ok.zero _ _ rfl) rfl rfl (by assumption) (by simp[Nd.v]) (by first|rfl|simp) (by first|rfl|(simp;rfl)) ⟨rfl,rfl⟩
   | exact zW3 (tys_ok.zero _ _ rfl) rfl rfl (by first|assumption|exact zIe (by assumption)) rfl (by simp) rfl rfl ⟨rfl,rfl⟩
   | exact qF8 (tys_ok.zero _ _ rfl) rfl (by simp[*];rfl) (by rfl) ⟨rfl,rfl⟩) (h:K v o):opK call cf id base e o n t (.load t' x) K:=qEw h1 h
theorem s_ {t':TypeId} {x y:Operand} {o1:List (Nat×Ob)}
  (h1:opK call cf id base e o n t (.store t' x y) (fun v' o'=>v' = .und/\o'=o1):=by
   first
   | exact zQi (tys_ok.zero _ _ rfl) rfl rfl rfl rfl (by assumption) (by first|rfl|simp) (by first|rfl|simp) (by simp;rfl) (by rfl) (by rfl) (by assumption) (by first|rfl|simp) (by simp;rfl) (by simp;rfl) ⟨rfl,rfl⟩
   | exact zXz (tys_ok.zero _ _ rfl) rfl rfl rfl rfl (by first|assumption|exact zIe (by assumption)) rfl rfl rfl rfl rfl rfl (by(try simp only[List.set_set]);rfl) ⟨rfl,rfl⟩
   | exact zYd (tys_ok.zero _ _ rfl) rfl rfl (by simp[*];rfl) (by rfl) ⟨rfl,rfl⟩) (h:K .und o1):opK call cf id base e o n t (.store t' x y) K:=by
 obtain⟨v',o',h2,rfl,rfl⟩:=h1;exact⟨_,_,h2,h⟩
theorem f_ {t':TypeId} {x:Operand} {i:Nat} {v:V}
  (h1:opK call cf id base e o n t (.fieldAddr t' x i) (fun v' o'=>v'=v/\o'=o):=by
   first
   | exact zF0 rfl rfl rfl (zAg tys_ok (Y:=tys) rfl) ⟨rfl,rfl⟩
   | exact zLi rfl (zAg tys_ok (Y:=tys) rfl) rfl ⟨rfl,rfl⟩
   | exact zF7 rfl rfl (by first|assumption|exact zIe (by assumption)) rfl (zAg tys_ok (Y:=tys) rfl) ⟨rfl,rfl⟩) (h:K v o):opK call cf id base e o n t (.fieldAddr t' x i) K:=qEw h1 h
theorem bA {op:BinOp} {t' t2:TypeId} {x y:Operand} {xs ys:List V} {q r:Bool} {m:Nat} (hN:cf.eqN t'=m) (hx:opV e x=some (.agg xs):=by exact rfl) (hy:opV e y=some (.agg ys):=by exact rfl) (hq:eqI xs ys=some q) (hl:xs.length=m:=by rfl) (hm:0<m:=by decide) (hn:zHt y=false:=by rfl) (hr:(op = .eql/\r=q)\/(op = .neq/\r=!q)) (h:K (.bool r) o):opK call cf id base e o n t (.binOp op t' x y t2) K:=by
 have hs:¬(op = .shl\/op = .shr):=by
  rintro(rfl|rfl)<;>(rcases hr with⟨h,_⟩|⟨h,_⟩<;>cases h)
 refine⟨_,_,?_,h⟩;simp only[opE,hx,hn,Bool.false_eq_true,if_false,hy,if_neg hs,qEp,if_pos (show xs.length=cf.eqN t'/\0<cf.eqN t' from⟨by rw[hN];exact hl,by rw[hN];exact hm⟩),hq];rcases hr with⟨rfl,rfl⟩|⟨rfl,rfl⟩<;>rfl
theorem fi {t':TypeId} {x:Operand} {i:Nat} {xs:List V} {y:V} (hx:opV e x=some (.agg xs):=by exact rfl) (hf:jX cf t' (.agg xs) i=true:=by exact(zAg tys_ok (Y:=tys) rfl)) (hy:xs[i]? = some y:=by exact rfl) (h:K y o):opK call cf id base e o n t (.field t' x i) K:=qCf hx hf hy h
theorem x_ {t':TypeId} {x ix:Operand} {v:V}
  (h1:opK call cf id base e o n t (.indexAddr t' x ix) (fun v' o'=>v'=v/\o'=o):=by
   first
   | exact zUt (tys_ok.elem _ _ rfl) (tys_ok.zero _ _ rfl) rfl rfl (by omega) (by assumption) (by first|rfl|(simp[*]<;>fail)) ⟨rfl,rfl⟩
   | exact zUt (tys_ok.elem _ _ rfl) (tys_ok.zero _ _ rfl) rfl rfl (by omega) (by simp[*]) (by first|rfl|(simp[*]<;>fail)) ⟨rfl,rfl⟩
   | exact zK0 (tys_ok.elem _ _ rfl) (tys_ok.zero _ _ rfl) rfl rfl rfl rfl (by omega) (by simp;rfl) (by first|omega|simp[*]) (by assumption) (by first|rfl|(simp[*]<;>fail)) ⟨rfl,rfl⟩
   | exact zK0 (tys_ok.elem _ _ rfl) (tys_ok.zero _ _ rfl) rfl rfl rfl rfl (by omega) (by simp;rfl) (by first|omega|simp[*]) (by exact zIe (by assumption)) (by first|rfl|simp) ⟨rfl,rfl⟩
   | exact zK0 (tys_ok.elem _ _ rfl) (tys_ok.zero _ _ rfl) rfl rfl rfl rfl (by omega) (by simp;rfl) (by first|omega|simp[*]) (by simp[*];rfl) (by first|rfl|(simp[*]<;>fail)) ⟨rfl,rfl⟩) (h:K v o):opK call cf id base e o n t (.indexAddr t' x ix) K:=qEw h1 h
theorem al {t':TypeId} {z:V} {id':Nat} (hz:cf.zero t'=some z:=by exact tys_ok.zero _ _ rfl) (hid:id=id':=by((try simp);rfl)) (h:K (.ptr id' 0 []) ((id',⟨true,false,z.cells,[z],0⟩)::o)):opK call cf id base e o n t (.alloc t') K:=qFe hz hid h
theorem bx {t':TypeId} {x:Operand} {v z:V} {id':Nat} (hx:opV e x=some v:=by exact rfl) (hz:cf.zero t'=some z:=by exact tys_ok.zero _ _ rfl) (hid:id=id':=by((try simp);rfl)) (hc:z.alike v=true:=by exact rfl) (ht:v.isTup=false:=by exact rfl) (h:K (.ptr id' 0 []) ((id',⟨true,false,z.cells,[v],0⟩)::o)):opK call cf id base e o n t (.box t' x) K:=k_box hx hz hid hc ht h
theorem pk {c x y:Operand} {v:V}
  (h1:opK call cf id base e o n t (.pick c x y) (fun v' o'=>v'=v/\o'=o):=by
   first
   | exact qDa rfl (by first|rfl|assumption) rfl ⟨rfl,rfl⟩
   | exact qDk rfl (by first|rfl|assumption) rfl ⟨rfl,rfl⟩) (h:K v o):opK call cf id base e o n t (.pick c x y) K:=qEw h1 h
theorem ex {x:Operand} {i:Nat} {xs:List V} {y:V} (hx:opV e x=some (.tup xs):=by exact rfl) (hy:xs[i]? = some y:=by exact rfl) (h:K y o):opK call cf id base e o n t (.extract x i) K:=zU1 hx hy h
theorem nc {x:Operand} {v:V}
  (h1:opK call cf id base e o n t (.nilCheck x) (fun v' o'=>v'=v/\o'=o):=by
   first
   | exact zOq rfl ⟨rfl,rfl⟩
   | exact zNo rfl ⟨rfl,rfl⟩) (h:K v o):opK call cf id base e o n t (.nilCheck x) K:=qEw h1 h
theorem cv {ts t':TypeId} {x:Operand} {k0 k k1:IntKind} {a:Int} (h0:cf.ints ts=some k0:=by exact tys_ok.ints _ _ rfl) (h1:cf.ints t'=some k:=by exact tys_ok.ints _ _ rfl) (hx:opV e x=some (.int k1 a):=by exact rfl) (h:K (.int k (k.wrap a)) o):opK call cf id base e o n t (.convert ts t' x) K:=zTg h0 h1 hx h
theorem mf {f:FuncId} {caps:Array Operand} {cs:List V} (hx:kW e caps.toList=some cs:=by exact rfl) (hk:V.capsOk cs=true:=by exact rfl) (h:K (.clo f cs) o):opK call cf id base e o n t (.makeFunc (.func f) #[] caps) K:=zSh hx hk h
theorem mk {t' el:TypeId} {x y:Operand} {k k':IntKind} {a:Int} {z:V} {id':Nat} (hx:opV e x=some (.int k a):=by exact rfl) (hy:opV e y=some (.int k' a):=by exact rfl) (he:cf.elem t'=some el:=by exact tys_ok.elem _ _ rfl) (hz:cf.zero el=some z:=by exact tys_ok.zero _ _ rfl) (hid:id=id':=by((try simp);rfl)) (h0:0<=a:=by(simp[*];try omega)) (h1:a<zCe:=by(simp[*];try omega))
  (h:K (.ref id' 0 a.toNat) ((id',⟨false,false,z.cells,List.replicate a.toNat z,0⟩)::o)):opK call cf id base e o n t (.makeSlice t' x y) K:=zOa hx hy he hz hid h0 h1 h
theorem sl {t' el:TypeId} {x:Operand} {lo hi:Option Operand} {vx z v:V} {vl vh:Option V} {m a b:Int} (hx:opV e x=some vx:=by exact rfl) (hl:zKk e lo=some vl:=by exact rfl) (hh:zKk e hi=some vh:=by exact rfl) (he:cf.elem t'=some el:=by exact tys_ok.elem _ _ rfl) (hz:cf.zero el=some z:=by exact tys_ok.zero _ _ rfl) (hm:zN0 vx=some m:=by exact rfl)
  (ha:zBl vl 0=some a:=by exact rfl) (hb:zBl vh m=some b:=by exact rfl) (hc:0<=a/\a<=b/\b<=m:=by first|omega|(simp[*];done)|(simp[*];omega)) (hv:zL0 ⟨e,o,n⟩ z.cells vx a b=some v:=by first|exact rfl|(simp[*];rfl)) (h:K v o):opK call cf id base e o n t (.slice t' x lo hi none) K:=qF9 hx hl hh he hz hm ha hb hc hv h
theorem le {args:Array Operand} {ts:Array TypeId} {t' el:TypeId} {x:V} {m:Int} (hx:kW e args.toList=some [x]:=by exact rfl) (ht:ts[0]? = some t':=by exact rfl) (he:cf.elem t'=some el:=by exact tys_ok.elem _ _ rfl) (hm:zN0 x=some m:=by exact rfl) (h:K (.int .i64 m) o):opK call cf id base e o n t (.call ⟨.builtin .len,args,ts⟩) K:=k_len hx ht he hm h
theorem cl {args:Array Operand} {ts:Array TypeId} {t1 e1:TypeId} {z:V} {q lo m:Nat} {ob:Ob} {ws:List V} (hx:kW e args.toList=some [.ref q lo m]:=by exact rfl) (h1:ts[0]? = some t1:=by exact rfl) (he:cf.elem t1=some e1:=by exact tys_ok.elem _ _ rfl) (hz:cf.zero e1=some z:=by exact tys_ok.zero _ _ rfl) (ho:zO o q=some ob:=by exact rfl) (hb:ob.bx=false:=by rfl) (hf:ob.fx=false:=by rfl) (hs:ob.sz=z.cells:=by rfl) (hm:0<m:=by omega) (hl:lo+m=ob.xs.length:=by(simp<;>omega)) (hw:ob.xs.take lo=ws:=by((try simp);rfl))
  (h:K .und ((q,⟨ob.bx,ob.fx,ob.sz,ws,ob.ver+1⟩)::o)):opK call cf id base e o n t (.call ⟨.builtin .clear,args,ts⟩) K:=by
 subst hw;exact qD1 hx h1 he hz ho ⟨hb,hf,hs,hm,hl⟩ h
theorem cc {args:Array Operand} {ts:Array TypeId} {t' el:TypeId} (hx:kW e args.toList=some [.emp true]:=by exact rfl) (ht:ts[0]? = some t':=by exact rfl) (he:cf.elem t'=some el:=by exact tys_ok.elem _ _ rfl) (h:K (.int .i64 0) o):opK call cf id base e o n t (.call ⟨.builtin .cap,args,ts⟩) K:=k_cap hx ht he h
theorem mi {args:Array Operand} {ts:Array TypeId} {vs:List V} {v:V} (hx:kW e args.toList=some vs:=by exact rfl) (hv:qLh vs=some v:=by exact rfl) (h:K v o):opK call cf id base e o n t (.call ⟨.builtin .min,args,ts⟩) K:=k_min hx hv h
theorem ap {args:Array Operand} {ts:Array TypeId} {t1 t2 e1 e2:TypeId} {x y z:V} {ys ws bs:List V} {r1:Option (List V×St)} {r2:Option (Nat×List V×St)} {sz:Nat} {o1 o2:List (Nat×Ob)} {id' m:Nat} (hx:kW e args.toList=some [x,y]:=by exact rfl) (h1:ts[0]? = some t1:=by exact rfl) (h2:ts[1]? = some t2:=by exact rfl) (he1:cf.elem t1=some e1:=by exact tys_ok.elem _ _ rfl) (hz:cf.zero e1=some z:=by exact tys_ok.zero _ _ rfl) (he2:cf.elem t2=some e2:=by exact tys_ok.elem _ _ rfl)
  (hel:St.elems ⟨[],o,n⟩ base y=r1:=by(simp;rfl)) (hel2:r1=some (ys,⟨[],o1,n⟩):=by rfl) (hb:St.base ⟨[],o1,n⟩ (x.asRow z.cells)=r2:=by(simp;rfl)) (hb2:r2=some (sz,bs,⟨[],o2,n⟩):=by rfl) (hid:id=id':=by((try simp);rfl)) (hsz:sz=z.cells:=by rfl) (hc:V.cellsAll z.cells ys=true:=by(simp[*];try rfl)) (hw:bs++ys=ws:=by((try simp);rfl)) (hm:ws.length=m:=by((try simp);rfl)) (hlen:m<zCe:=by(simp<;>omega))
  (h:K (.ref id' 0 m) ((id',⟨false,false,z.cells,ws,0⟩)::o2)):opK call cf id base e o n t (.call ⟨.builtin .append,args,ts⟩) K:=zMf hx h1 h2 he1 hz he2 hel hel2 hb hb2 hid hsz hc hw hm hlen h
theorem apZ {args:Array Operand} {ts:Array TypeId} {t1 t2 e1:TypeId} {z:V} {k k2:IntKind} {m:Int} {id':Nat} (hx:kW e args.toList=some [.emp true,.int k m]:=by exact rfl) (h1:ts[0]? = some t1:=by exact rfl) (h2:ts[1]? = some t2:=by exact rfl) (he1:cf.elem t1=some e1:=by exact tys_ok.elem _ _ rfl) (hz:cf.zero e1=some z:=by exact tys_ok.zero _ _ rfl) (hi:cf.ints t2=some k2:=by exact tys_ok.ints _ _ rfl) (hid:id=id':=by((try simp);rfl)) (h0:0<m:=by first|assumption|omega) (hm:m<zCe:=by first|(unfold zCe;omega)|(simp<;>omega))
  (h:K (.ref id' 0 m.toNat) ((id',⟨false,false,z.cells,List.replicate m.toNat z,0⟩)::o)):opK call cf id base e o n t (.call ⟨.builtin .append,args,ts⟩) K:=zV0 hx h1 h2 he1 hz hi hid h0 hm h
theorem bd {t':TypeId} {ps:Array (Nat×Operand)} {zs xs:List V} {l:List (Nat×V)} {fl:List (Nat×TypeId)} (hz:cf.zero t'=some (.agg zs):=by exact tys_ok.zero _ _ rfl) (hf:cf.flds t'=some fl:=by exact tys_ok.flds _ _ rfl) (hp:xE e ps.toList=some l:=by exact rfl) (hv:xG cf t' zs l=some xs:=by exact(zL1 tys_ok (Y:=tys) rfl)) (h:K (.agg xs) o):opK call cf id base e o n t (.build t' ps) K:=qDb hz hf hp hv h
theorem bs {t' el:TypeId} {m:Nat} {ps:Array (Nat×Operand)} {z:V} {l:List (Nat×V)} {ys:List V} {o1:List (Nat×Ob)} {id':Nat} {r:Option (List V×St)} (he:cf.elem t'=some el:=by exact tys_ok.elem _ _ rfl) (hz:cf.zero el=some z:=by exact tys_ok.zero _ _ rfl) (hp:xE e ps.toList=some l:=by exact rfl) (hc:l.map (·.1)=List.range m/\m * z.cells<=16777216/\l.all (fun e=>z.alike e.2)=true:=by exact⟨rfl,by first|decide|simp,by simp⟩)
  (hf:V.fzL (l.map (·.2)) ⟨[],o,n⟩=r:=by(simp;rfl)) (hr:r=some (ys,⟨[],o1,n⟩):=by rfl) (hid:id=id':=by((try simp);rfl)) (h:K (.ref id' 0 m) ((id',⟨false,false,z.cells,ys,0⟩)::o1)):opK call cf id base e o n t (.buildSlice t' m ps) K:=zJy he hz hp hc hf hr hid h
theorem ca {args:Array Operand} {ts:Array TypeId} {fo:Operand} {f:FuncId} {cs vs qs:List V} {sr:Option (List V)} {rv v:V} {o1:List (Nat×Ob)} {id':Nat} (hx:kW e args.toList=some vs:=by exact rfl) (hf:opV e fo=some (.clo f cs):=by exact rfl) (hB:cf.inB f=false:=by(rw[zFc];rfl)) (hk:V.capsOk cs=true:=by exact rfl) (hl:jW (cf.md f) (vs++cs) ⟨e,o,n⟩=some (vs++cs,⟨e,o,n⟩,[]):=by(rw[zB7];rfl))
  (hs:jI ⟨[],o,n⟩ (cf.md f) (vs++cs)=sr:=by(simp[zB7,mdT];rfl)) (hsr:sr=some qs:=by first|rfl|(simp[*]<;>fail)) (hc:call f qs=some (rv,[])) (hid:id=id':=by((try simp);rfl)) (hw:((xU (cf.md f) (vs++cs)).isEmpty=true\/rv.tidy=true/\V.tidyL ([]:List V)=true)/\(rv.thaw id').2.2<=id'+32:=by simp[zB7,mdT]) (hv:(rv.thaw id').1=v:=by(simp;rfl)) (ho:(rv.thaw id').2.1++o=o1:=by(simp;rfl))
  (h:K v o1):opK call cf id base e o n t (.call ⟨.value fo,args,ts⟩) K:=zOh hx hf hB hk hl hs hsr hc rfl hid hw hv ho h
end
section
variable {orc : Orc} {fn : FuncId} {Q : Ext->St->Prop} {s : St}
theorem e_ {ev:List (Nat×V)} {o:List (Nat×Ob)} {m n':Nat} {tr:List (List (Nat×Acc))} (hn:m=n':=by((try simp);rfl)) (h:Q .normal ⟨ev,o,n'⟩):qK5 Q ⟨ev,o,m⟩ tr:=qMc hn h
theorem ed {ev:List (Nat×V)} {o:List (Nat×Ob)} {m n n' k:Nat} {bits:List Nat} {tr:List (List (Nat×Acc))} (hn:n=n':=by(simp;rfl)) (hc:zMs bits k tr=true:=by first|rfl|simp) (h:Q .normal ⟨ev,o,n'⟩):endD Q n bits k ⟨ev,o,m⟩ tr:=qFp hn hc h
theorem c_ {c:Operand} {a b:Code} {v:Bool} (hc:opV s.env c=some (.bool v):=by exact rfl) (h1:v=true->wpC orc cf fn a s Q) (h2:v=false->wpC orc cf fn b s Q):wpC orc cf fn (.cond c a b) s Q:=qBv hc h1 h2
theorem qX {e:Ext} {s:St} {fn:Func} {args:List V} {x:V×List V} {vs:List V} {r:Option (List V×St)} {q:List V×St} {os:List V} (he:e = .normal\/e = .ret:=by simp)
  (hr:zEz cf s fn.results.toList=some vs)
  (hz:V.fzL vs ⟨[],s.obs,s.nxt⟩=r:=by(simp;rfl)) (hq:r=some q:=by rfl) (ho:xT 0 args q.2=some os:=by(simp;rfl)) (h:(zFi q.1,os)=x) :
  (e = .normal\/e = .ret)/\∃vs,zEz cf s fn.results.toList=some vs/\∃r,V.fzL vs ⟨[],s.obs,s.nxt⟩=r/\∃q,r=some q/\∃os,xT 0 args q.2=some os/\(zFi q.1,os)=x :=
 ⟨he,vs,hr,r,hz,q,hq,os,ho,h⟩
theorem dn {p c:Prop} (h:c) (hf:c->False:=by first|(simp;done)|(intro c;(try simp at c);omega)):p:=(hf h).elim
theorem wa_ {a b:Code} (h:wpC orc cf fn a s (qK4 orc cf fn b Q)):wpC orc cf fn (.seq a b) s Q:=qM1 h
end
attribute [simp] zAl zJ qDl V.aggOf St.copyRow St.moveRow St.copyPlc xF zL0 zD6 opE opV zHc zO xC kT zEy qEp zF5 unV qMx qN0 qG2 qD9 qCa qN4 qN1 qMp qMh qEn zEz qGw V.fz V.fzL V.fzI V.fzIL xT kW xE xG jV zN0 xM jW qU jI xU vV V.snap V.snapL qNe qFb qN7 qJy qMy qMk qLv qDt qI3 qL4 qMm qCq qMo qK0 qNg qNh qM3 qEl qKx V.snapPL V.thaw V.thawL V.tidy V.tidyL V.share V.shareL yP yL zCz xJ V.cells V.cellsL zA4 zGx zRd zM7 zEu zCc zS3 zBf V.ren V.renL V.mention V.mentionL zB4 vA qF7 qC St.put St.new St.at St.take St.takeQ St.give St.elems St.base zBd Ob.get Ob.set kS zCv V.alike V.alikeL V.scal V.scalL V.lod V.lodL jX zC9 zMm zFi xA zF6 zBl zKk zC7 zE9 vD zH7 zWt V.accM V.accML V.accF V.accFL zEe zA9 zMs zIo Acc.clash yQ zCe zHt opT V.isTup V.capsOk V.argOk V.bare V.bareL V.cellsAll V.asRow V.asRow
section
variable {call : Call} {draw : Bool} {all rest : List Oper} {base i : Nat} {tr : List (List (Nat × Acc))} {Q : St->List (List (Nat × Acc))->Prop} {e : List (Nat × V)} {o : List (Nat × Ob)} {n : Nat} {d : Nat} {t : TypeId} {p : String} {af : Array Edge}
theorem wM {cx:Operand} {v:V} (hx:opV e cx=some v:=by exact rfl) (hn:zHt cx=false:=by exact rfl) (h:wpO call cf false all base (i+1) rest ⟨(d,v)::e,o,n+32⟩ [] Q):wpO call cf false all base i (⟨some d,.move cx,t,p,af,none⟩::rest) ⟨e,o,n⟩ [] Q:=w_ (m_ hx hn h)
theorem W3 {cx:Operand} {v:V} (hx:opV e cx=some v:=by exact rfl) (hn:zHt cx=false:=by exact rfl) (h:wpO call cf false all base (i+1) rest ⟨(d,v)::e,o,n+32⟩ [] Q):wpO call cf false all base i (⟨some d,.assign cx,t,p,af,none⟩::rest) ⟨e,o,n⟩ [] Q:=w_ (a_ hx hn h)
theorem yM {cx:Operand} {v:V} {ac:List (Nat×Acc)} (hx:opV e cx=some v:=by exact rfl) (hn:zHt cx=false:=by exact rfl) (h1:zC7 cf (base+32 * i) base ⟨e,o,n⟩ v (.move cx)=ac:=by(simp[zB7,mdT];rfl)) (h:wpO call cf true all base (i+1) rest ⟨(d,v)::e,o,n⟩ (ac::tr) Q):wpO call cf true all base i (⟨some d,.move cx,t,p,af,none⟩::rest) ⟨e,o,n⟩ tr Q:=y_ (m_ hx hn (ax_ h1 h))
end
section
variable {Q : Ext->St->Prop}
theorem nE {call:Call} {cfg:Cfg} {draw:Bool} {all:List Oper} {base i:Nat} {ev:List (Nat×V)} {o:List (Nat×Ob)} {m n':Nat} {tr:List (List (Nat×Acc))} (hn:m=n':=by((try simp);rfl)) (h:Q .normal ⟨ev,o,n'⟩):wpO call cfg draw all base i [] ⟨ev,o,m⟩ tr (qK5 Q):=qO (e_ hn h)
end
end Go.Proofs.YtbcgenkegnmkhaaGreat.Ev
namespace Go.Proofs.YtbcgenkegnmkhaaGreat.Ev
open Go
set_option maxRecDepth 100000
set_option linter.unusedSimpArgs false
set_option linter.unusedVariables false
set_option maxHeartbeats 2000000
theorem zFp (a b c:Int):oc.call 44 [.int .i64 a,.int .i64 b,.int .i64 c]=some (.bool (inI a b c),[]):=by
 refine qA rfl cd44 rfl rfl rfl (by simp;rfl) (by simp;rfl) ?_;refine wa_ (zB (W3 (h:=nE (h:=zA (wa_ (zB (wM (h:=wM (h:=w_ (b_ (h:=wM (h:=?_))))))))))));refine gw_ (h1:=?_) (h2:=?_)
 rotate_right 1
 focus
  intro c1;refine go_ (h:=go_ (h:=go_ (h:=?_)))
 rotate_right 1
 focus
  intro c1;refine g_ (h:=wM (h:=g_ (h:=wM (h:=g_ (h:=w_ (b_ (h:=?_)))))))
 all_goals
  refine w_ (pk (h:=W3 (h:=nE (h:=?_))))
 all_goals first
 | (
  refine zA ?_;refine zF ?_)
 all_goals (refine qX (hr:=(zL rfl zM)) (h:=?_);(focus (simp_all [inI]<;>omega)))
theorem xW (a b c:Int):oc.call 48 [.int .i64 a,.int .i64 b,.int .i64 c]=some (.bool (inI a b c),[]):=by
 refine qA rfl cd48 rfl rfl rfl (by simp;rfl) (by simp;rfl) ?_;refine wa_ (zB (W3 (h:=nE (h:=zA (wa_ (zB (wM (h:=wM (h:=w_ (b_ (h:=wM (h:=?_))))))))))));refine gw_ (h1:=?_) (h2:=?_)
 rotate_right 1
 focus
  intro c1;refine go_ (h:=go_ (h:=go_ (h:=?_)))
 rotate_right 1
 focus
  intro c1;refine g_ (h:=wM (h:=g_ (h:=wM (h:=g_ (h:=w_ (b_ (h:=?_)))))))
 all_goals
  refine w_ (pk (h:=W3 (h:=nE (h:=?_))))
 all_goals first
 | (
  refine zA ?_;refine zF ?_)
 all_goals (refine qX (hr:=(zL rfl zM)) (h:=?_);(focus (simp_all [inI]<;>omega)))
theorem zVt (a b:Int):oc.call 168 [.int .i64 a,.int .i64 b]=some (.int .i64 (if a<b then a else b),[]):=by
 refine qA rfl cd168 rfl rfl rfl (by simp;rfl) (by simp;rfl) ?_;refine wa_ (zB (W3 (h:=nE (h:=zA (wa_ (wa_ (zB (wM (h:=wM (h:=w_ (b_ (h:=nE (h:=?_)))))))))))));refine zA ?_;refine c_ (h1:=?_) (h2:=?_)
 rotate_right 1
 focus
  intro c1;refine zC ?_
 rotate_right 1
 focus
  intro c1;refine wa_ (zB (wM (h:=W3 (h:=nE (h:=zA (zF ?_))))))
 all_goals first|refine zK ?_|(
  refine zA ?_;refine wa_ (zB (wM (h:=W3 (h:=nE (h:=zA (zF ?_)))))))
 all_goals (refine qX (hr:=(zL rfl zM)) (h:=?_);(focus (first|(simp_all;done)|(simp_all<;>omega)|(simp_all<;>split<;>simp_all<;>omega))))
theorem zZp (a:Int):oc.call 172 [.int .i64 a]=some (.bool (decide (a=4)||decide (a=6)),[]):=by
 refine qA rfl cd172 rfl rfl rfl (by simp;rfl) (by simp;rfl) ?_;refine wa_ (zB (W3 (h:=nE (h:=zA (wa_ (zB (wM (h:=w_ (bE (h:=wM (h:=?_)))))))))));refine gw_ (h1:=?_) (h2:=?_)
 rotate_right 1
 focus
  intro c1;refine go_ (h:=go_ (h:=?_))
 rotate_right 1
 focus
  intro c1;refine g_ (h:=wM (h:=g_ (h:=w_ (bE (h:=?_)))))
 all_goals
  refine w_ (pk (h:=W3 (h:=nE (h:=?_))))
 all_goals first
 | (
  refine zA ?_;refine zF ?_)
 all_goals (refine qX (hr:=(zL rfl zM)) (h:=?_);(focus (first|(simp_all;done)|(simp_all<;>omega)|(simp_all<;>split<;>simp_all<;>omega))))
theorem zL6 (a:Int):oc.call 118 [.int .i64 a]=some (.bool (inI a 7 10),[]):=by
 refine qA rfl cd118 rfl rfl rfl (by simp;rfl) (by simp;rfl) ?_;refine wa_ (zB (W3 (h:=nE (h:=zA (wa_ (zB (wM (h:=w_ (ca (hc:=zFp _ _ _) (h:=W3 (h:=nE (h:=zA ?_))))))))))));refine zF ?_
 all_goals (refine qX (hr:=(zL rfl zM)) (h:=?_);(focus (first|(simp_all;done)|(simp_all<;>omega)|(simp_all<;>split<;>simp_all<;>omega))))
theorem zAc (a:Int):oc.call 108 [.int .i64 a]=some (.int .i64 (if a=1 then 0 else if a=4\/a=6 then 2 else 1),[]):=by
 refine qA rfl cd108 rfl rfl rfl (by simp;rfl) (by simp;rfl) ?_;refine wa_ (zB (W3 (h:=nE (h:=zA (wa_ (wa_ (zB (wM (h:=nE (h:=zA (zG ?_)))))))))));refine wa_ (zB (w_ (bE (h:=W3 (h:=nE (h:=zA ?_))))));refine c_ (h1:=?_) (h2:=?_)
 rotate_right 1
 focus
  intro c1;refine wa_ (wa_ (zB (w_ (bE (h:=W3 (h:=nE (h:=zA ?_)))))));refine c_ (h1:=?_) (h2:=?_)
  rotate_right 1
  focus
   intro c2;refine zB (w_ (bE (h:=W3 (h:=nE (h:=?_)))))
  rotate_right 1
  focus
   intro c2;refine zC ?_
  all_goals first
  | (
   refine zA ?_;refine c_ (h1:=?_) (h2:=?_)
   rotate_right 1
   focus
    intro c3;refine zC ?_
   rotate_right 1
   focus
    intro c3;refine wa_ (zB (W3 (h:=nE (h:=zA (zF ?_))))))
 rotate_right 1
 focus
  intro c1;refine wa_ (zB (W3 (h:=nE (h:=zA (zF ?_)))))
 all_goals first|refine zI ?_|refine zX ?_
 all_goals first|refine zK ?_|(
  refine zA ?_;refine wa_ (zB (W3 (h:=nE (h:=zA (zF ?_))))))
 all_goals (refine qX (hr:=(zL rfl zM)) (h:=?_);(focus (first|(simp_all;done)|(simp_all<;>omega)|(simp_all<;>split<;>simp_all<;>omega))))
theorem zQn (sz:Nat) (l:List V) (h:l.length<4611686018427387904):oc.call 56 [.lst false sz l]=some (.int .i64 l.length,[]):=by
 refine qA rfl cd56 rfl rfl rfl (by simp;rfl) (by simp;rfl) ?_;refine wa_ (zB (W3 (h:=nE (h:=zA (wa_ (zB (wM (h:=w_ (le (h:=W3 (h:=nE (h:=zA ?_))))))))))));refine zF ?_
 all_goals (refine qX (hr:=(zL rfl zM)) (h:=?_);(focus (first|(simp_all;done)|(simp_all<;>omega)|(simp_all<;>split<;>simp_all<;>omega))))
theorem zJj (sz:Nat) (l:List V) (h:l.length<4611686018427387904):oc.call 75 [.lst false sz l]=some (.int .i64 l.length,[]):=by
 refine qA rfl cd75 rfl rfl rfl (by simp;rfl) (by simp;rfl) ?_;refine wa_ (zB (W3 (h:=nE (h:=zA (wa_ (zB (wM (h:=w_ (le (h:=W3 (h:=nE (h:=zA ?_))))))))))));refine zF ?_
 all_goals (refine qX (hr:=(zL rfl zM)) (h:=?_);(focus (first|(simp_all;done)|(simp_all<;>omega)|(simp_all<;>split<;>simp_all<;>omega))))
theorem zEd (a:Int):oc.call 129 [.int .i64 a]=some (.bool (inI a (-1000000000000) 1000000000000),[]):=by
 refine qA rfl cd129 rfl rfl rfl (by simp;rfl) (by simp;rfl) ?_;refine wa_ (zB (W3 (h:=nE (h:=zA (wa_ (zB (wM (h:=w_ (ca (hc:=zFp _ _ _) (h:=W3 (h:=nE (h:=zA ?_))))))))))));refine zF ?_
 all_goals (refine qX (hr:=(zL rfl zM)) (h:=?_);(focus (first|(simp_all;done)|(simp_all<;>omega)|(simp_all<;>split<;>simp_all<;>omega))))
theorem zI7 (a:Int):oc.call 159 [.int .i64 a]=some (.bool (inI a (-1000000000000) 1000000000000),[]):=by
 refine qA rfl cd159 rfl rfl rfl (by simp;rfl) (by simp;rfl) ?_;refine wa_ (zB (W3 (h:=nE (h:=zA (wa_ (zB (wM (h:=w_ (ca (hc:=xW _ _ _) (h:=W3 (h:=nE (h:=zA ?_))))))))))));refine zF ?_
 all_goals (refine qX (hr:=(zL rfl zM)) (h:=?_);(focus (first|(simp_all;done)|(simp_all<;>omega)|(simp_all<;>split<;>simp_all<;>omega))))
def okN (l:List Nd):Prop:=∀d∈l,d.cells.length<2000000
end Go.Proofs.YtbcgenkegnmkhaaGreat.Ev
namespace Go.Proofs.YtbcgenkegnmkhaaGreat.Ev
open Go
set_option maxRecDepth 100000
set_option linter.unusedSimpArgs false
set_option linter.unusedVariables false
set_option maxHeartbeats 2000000
def lz (t:Bool) (n:Nat):Nat:=match t with|true=>n|false=>0
@[simp] theorem lz_t (n:Nat):lz true n=n:=rfl
@[simp] theorem lz_f (n:Nat):lz false n=0:=rfl
theorem yV (t:Bool) (s:Nat) (xs:List V):(V.lst t s xs).share = .lst false 0 (V.shareL xs):=by cases t<;>rfl
theorem yX (t:Bool) (s:Nat) (xs:List V):(V.lst t s xs).mention=[]:=by cases t<;>rfl
structure Ct where
 pl:Int
 ep:Int
 n:Int
 deriving DecidableEq
theorem Ct.eq_iff {d g:Ct}:d=g↔d.pl=g.pl/\d.ep=g.ep/\d.n=g.n:=by
 cases d;cases g;simp
def Ct.v (x:Ct):V:=.agg [.int .i64 x.pl,.int .i64 x.ep,.int .i64 x.n]
def cts (l:List Ct):List V:=l.map (Ct.v)
@[simp] theorem cts_len (l:List Ct):(cts l).length=l.length:=by simp[cts]
@[simp] theorem cts_nil:cts []=[]:=rfl
@[simp] theorem cts_cons (x:Ct) (l:List Ct):cts (x::l)=x.v::cts l:=rfl
@[simp] theorem cts_join (l m:List Ct):cts l++cts m=cts (l++m):=by simp[cts]
@[simp] theorem cts_snoc (l:List Ct) (x:Ct):cts l++[x.v]=cts (l++[x]):=by simp[cts]
@[simp] theorem qLp (l:List Ct) (a:Int) (b:Int) (c:Int):cts l++[V.agg [.int .i64 a,.int .i64 b,.int .i64 c]]=cts (l++[⟨a,b,c⟩]):=by simp[cts,Ct.v]
@[simp] theorem cts_set2 (l:List Ct) (j:Nat) (a:Int) (b:Int) (c:Int):(cts l).set j (V.agg [.int .i64 a,.int .i64 b,.int .i64 c])=cts (l.set j ⟨a,b,c⟩):=by simp[cts,Ct.v,List.map_set]
@[simp] theorem cts_set (l:List Ct) (i:Nat) (x:Ct):(cts l).set i (x.v)=cts (l.set i x):=by simp[cts,List.map_set]
theorem qFm {l:List Ct} {i:Nat} {x:Ct} (h:l[i]? = some x):(cts l)[i]? = some (x.v):=by simp[cts,h]
theorem qBe {l:List Ct} {i:Nat} (h:i<l.length):(cts l)[(i:Int).toNat]? = some (l[i].v):=qFm (by simp[h])
theorem qFk {l:List Ct} {i:Nat} (h:i<l.length):∃x,l[i]? = some x/\l.drop i=x::l.drop (i+1)/\(cts l)[(i:Int).toNat]? = some (x.v) :=
 ⟨l[i],by simp[h],List.drop_eq_getElem_cons h,qBe h⟩
@[simp] theorem cts_take (n:Nat) (l:List Ct):(cts l).take n=cts (l.take n):=by simp[cts,List.map_take]
@[simp] theorem cts_drop (n:Nat) (l:List Ct):(cts l).drop n=cts (l.drop n):=by simp[cts,List.map_drop]
@[simp] theorem Ct.cells_v (x:Ct):(x.v).cells=3:=rfl
@[simp] theorem Ct.mention (x:Ct):V.mention (x.v)=[]:=by simp[Ct.v,V.mention,V.mentionL,yX]
@[simp] theorem Ct.share (x:Ct):(x.v).share=x.v:=by simp[Ct.v,V.share,V.shareL,yV]
@[simp] theorem zC0 (l:List Ct):V.shareL (cts l)=cts l:=by
 induction l with
 | nil=>rfl
 | cons x l ih=>simp[V.shareL,ih]
@[simp] theorem Ct.snap (x:Ct) (q:St):V.snap q (x.v)=some (x.v):=by simp[Ct.v,V.snap,V.snapL,mp]
@[simp] theorem Ct.snapA (x:Ct) (q:St):V.snapA q (x.v)=some (x.v):=Ct.snap x q
@[simp] theorem Ct.snapP (x:Ct) (q:St):V.snapP q (x.v)=some (x.v):=Ct.snap x q
@[simp] theorem Ct.accM (x:Ct):V.accM (x.v)=[]:=by simp[Ct.v,V.accM,V.accML]
@[simp] theorem Ct.accF (x:Ct):V.accF (x.v)=[]:=by simp[Ct.v,V.accF,V.accFL]
@[simp] theorem Ct.ren (x:Ct) (ρ:Nat->Option Nat) (vr:Nat->Nat):V.ren ρ vr (x.v)=x.v:=by simp[Ct.v,V.ren,V.renL]
@[simp] theorem Ct.bA (i:Nat) (x:Ct) (r:List V):zQ i (x.v::r)=((i,x.v)::(zQ (i+1) r).1,(zQ (i+1) r).2):=rfl
@[simp] theorem Ct.lodF (x:Ct) (o i ver:Nat) (fs:List Nat):V.lod o i ver fs (x.v)=x.v:=by simp[Ct.v,V.lod,V.lodL]
@[simp] theorem Ct.fz (x:Ct) (s:St):V.fz x.v s=some (x.v,s):=by simp[Ct.v,V.fz,V.fzL,mp]
@[simp] theorem Ct.fzI (x:Ct) (s:St):V.fzI x.v s=some (x.v,s):=by simp[Ct.v,V.fz,V.fzI,V.fzIL,mp]
@[simp] theorem Ct.scal (x:Ct):V.scal (x.v)=true:=by simp[Ct.v,V.scal,V.scalL]
@[simp] theorem Ct.isTup (x:Ct):(x.v).isTup=false:=rfl
@[simp] theorem Ct.tidyT (x:Ct):V.tidy (x.v)=true:=by simp[Ct.v,V.tidy,V.tidyL]
@[simp] theorem zLo (l:List Ct):V.tidyL (cts l)=true:=by
 induction l with
 | nil=>rfl
 | cons x l ih=>simp[V.tidyL,ih]
@[simp] theorem Ct.thaw (x:Ct) (id:Nat):V.thaw id x.v=(x.v,[],id):=by simp[Ct.v,V.thaw,V.thawL]
structure Et where
 row:List Int
 w:Int
 deriving DecidableEq
theorem Et.eq_iff {d g:Et}:d=g↔d.row=g.row/\d.w=g.w:=by
 cases d;cases g;simp
def Et.v (t:Bool) (x:Et):V:=.agg [.lst t (lz t 1) (ints x.row),.int .i64 x.w]
def ets (t:Bool) (l:List Et):List V:=l.map (Et.v t)
@[simp] theorem ets_len (t:Bool) (l:List Et):(ets t l).length=l.length:=by simp[ets]
@[simp] theorem ets_nil (t:Bool):ets t []=[]:=rfl
@[simp] theorem zY8 (t:Bool) (x:Et) (l:List Et):ets t (x::l)=x.v t::ets t l:=rfl
@[simp] theorem ets_join (t:Bool) (l m:List Et):ets t l++ets t m=ets t (l++m):=by simp[ets]
@[simp] theorem ets_snoc (t:Bool) (l:List Et) (x:Et):ets t l++[x.v t]=ets t (l++[x]):=by simp[ets]
@[simp] theorem qGb (l:List Et) (a:List Int) (b:Int):ets true l++[V.agg [.lst true 1 (ints a),.int .i64 b]]=ets true (l++[⟨a,b⟩]):=by simp[ets,Et.v]
@[simp] theorem qI1 (l:List Et) (j:Nat) (a:List Int) (b:Int):(ets true l).set j (V.agg [.lst true 1 (ints a),.int .i64 b])=ets true (l.set j ⟨a,b⟩):=by simp[ets,Et.v,List.map_set]
theorem zPw (m:Nat):List.replicate m (V.agg [.lst true 1 [],.int .i64 0])=ets true (List.replicate m ⟨[],0⟩):=by simp[ets,Et.v]
@[simp] theorem qGn (l:List Et) (a:List Int) (b:Int):ets false l++[V.agg [.lst false 0 (ints a),.int .i64 b]]=ets false (l++[⟨a,b⟩]):=by simp[ets,Et.v]
@[simp] theorem qN5 (l:List Et) (j:Nat) (a:List Int) (b:Int):(ets false l).set j (V.agg [.lst false 0 (ints a),.int .i64 b])=ets false (l.set j ⟨a,b⟩):=by simp[ets,Et.v,List.map_set]
@[simp] theorem ets_set (t:Bool) (l:List Et) (i:Nat) (x:Et):(ets t l).set i (x.v t)=ets t (l.set i x):=by simp[ets,List.map_set]
theorem qCp {t:Bool} {l:List Et} {i:Nat} {x:Et} (h:l[i]? = some x):(ets t l)[i]? = some (x.v t):=by simp[ets,h]
theorem qAo {t:Bool} {l:List Et} {i:Nat} (h:i<l.length):(ets t l)[(i:Int).toNat]? = some (l[i].v t):=qCp (by simp[h])
theorem zBk {t:Bool} {l:List Et} {i:Nat} (h:i<l.length):∃x,l[i]? = some x/\l.drop i=x::l.drop (i+1)/\(ets t l)[(i:Int).toNat]? = some (x.v t) :=
 ⟨l[i],by simp[h],List.drop_eq_getElem_cons h,qAo h⟩
@[simp] theorem ets_take (t:Bool) (n:Nat) (l:List Et):(ets t l).take n=ets t (l.take n):=by simp[ets,List.map_take]
@[simp] theorem ets_drop (t:Bool) (n:Nat) (l:List Et):(ets t l).drop n=ets t (l.drop n):=by simp[ets,List.map_drop]
@[simp] theorem Et.cells_v (t:Bool) (x:Et):(x.v t).cells=2:=rfl
@[simp] theorem Et.mention (t:Bool) (x:Et):V.mention (x.v t)=[]:=by simp[Et.v,V.mention,V.mentionL,yX]
@[simp] theorem Et.share (t:Bool) (x:Et):(x.v t).share=x.v false:=by simp[Et.v,V.share,V.shareL,yV,zBz]
@[simp] theorem kO (t:Bool) (l:List Et):V.shareL (ets t l)=ets false l:=by
 induction l with
 | nil=>rfl
 | cons x l ih=>simp[V.shareL,ih]
@[simp] theorem Et.snap (t:Bool) (x:Et) (q:St):V.snap q (x.v t)=some (x.v false):=by simp[Et.v,V.snap,V.snapL,mp,zBz]
@[simp] theorem Et.snapA (t:Bool) (x:Et) (q:St):V.snapA q (x.v t)=some (x.v false):=Et.snap t x q
@[simp] theorem Et.snapP (t:Bool) (x:Et) (q:St):V.snapP q (x.v t)=some (x.v false):=Et.snap t x q
@[simp] theorem Et.accM (t:Bool) (x:Et):V.accM (x.v t)=[]:=by simp[Et.v,V.accM,V.accML]
@[simp] theorem Et.accF (t:Bool) (x:Et):V.accF (x.v t)=[]:=by simp[Et.v,V.accF,V.accFL]
@[simp] theorem Et.ren (t:Bool) (x:Et) (ρ:Nat->Option Nat) (vr:Nat->Nat):V.ren ρ vr (x.v t)=x.v t:=by simp[Et.v,V.ren,V.renL]
@[simp] theorem Et.bA (i:Nat) (t:Bool) (x:Et) (r:List V):zQ i (x.v t::r)=((i,x.v t)::(zQ (i+1) r).1,(zQ (i+1) r).2):=rfl
@[simp] theorem Et.lodF (x:Et) (o i ver:Nat) (fs:List Nat):V.lod o i ver fs (x.v false)=x.v false:=by simp[Et.v,V.lod,V.lodL]
@[simp] theorem Et.fzF (x:Et) (s:St):V.fz (x.v false) s=some (x.v false,s):=by simp[Et.v,V.fz,V.fzL,mp]
@[simp] theorem Et.fzI (t:Bool) (x:Et) (s:St):V.fzI (x.v t) s=some (x.v t,s):=by cases t<;>simp[Et.v,V.fz,V.fzI,V.fzIL,mp]
@[simp] theorem Et.scal (t:Bool) (x:Et):V.scal (x.v t)=false:=by simp[Et.v,V.scal,V.scalL]
@[simp] theorem Et.isTup (t:Bool) (x:Et):(x.v t).isTup=false:=rfl
@[simp] theorem Et.tidyT (x:Et):V.tidy (x.v true)=true:=by simp[Et.v,V.tidy,V.tidyL,zLr]
@[simp] theorem zBv (l:List Et):V.tidyL (ets true l)=true:=by
 induction l with
 | nil=>rfl
 | cons x l ih=>simp[V.tidyL,ih]
@[simp] theorem Et.thawF (x:Et) (id:Nat):V.thaw id (x.v false)=(x.v false,[],id):=by simp[Et.v,V.thaw,V.thawL]
@[simp] theorem Et.thawT (x:Et) (id:Nat):V.thaw id (x.v true)=(.agg [.ref (id) 0 x.row.length,.int .i64 x.w],[(id,⟨false,false,1,ints x.row,0⟩)],id+1):=by simp[Et.v,V.thaw,V.thawL]
structure Fr where
 kind:Int
 node:Int
 side:Int
 ep:Int
 set:List Et
 news:List Ct
 deriving DecidableEq
theorem Fr.eq_iff {d g:Fr}:d=g↔d.kind=g.kind/\d.node=g.node/\d.side=g.side/\d.ep=g.ep/\d.set=g.set/\d.news=g.news:=by
 cases d;cases g;simp
def Fr.v (t:Bool) (x:Fr):V:=.agg [.int .i64 x.kind,.int .i64 x.node,.int .i64 x.side,.int .i64 x.ep,.lst t (lz t 2) (ets t x.set),.lst t (lz t 3) (cts x.news)]
def frs (t:Bool) (l:List Fr):List V:=l.map (Fr.v t)
@[simp] theorem frs_len (t:Bool) (l:List Fr):(frs t l).length=l.length:=by simp[frs]
@[simp] theorem frs_nil (t:Bool):frs t []=[]:=rfl
@[simp] theorem frs_cons (t:Bool) (x:Fr) (l:List Fr):frs t (x::l)=x.v t::frs t l:=rfl
@[simp] theorem frs_join (t:Bool) (l m:List Fr):frs t l++frs t m=frs t (l++m):=by simp[frs]
@[simp] theorem frs_snoc (t:Bool) (l:List Fr) (x:Fr):frs t l++[x.v t]=frs t (l++[x]):=by simp[frs]
@[simp] theorem zSg (l:List Fr) (a:Int) (b:Int) (c:Int) (d:Int) (e:List Et) (f:List Ct):frs true l++[V.agg [.int .i64 a,.int .i64 b,.int .i64 c,.int .i64 d,.lst true 2 (ets true e),.lst true 3 (cts f)]]=frs true (l++[⟨a,b,c,d,e,f⟩]):=by simp[frs,Fr.v]
@[simp] theorem qLa (l:List Fr) (j:Nat) (a:Int) (b:Int) (c:Int) (d:Int) (e:List Et) (f:List Ct):(frs true l).set j (V.agg [.int .i64 a,.int .i64 b,.int .i64 c,.int .i64 d,.lst true 2 (ets true e),.lst true 3 (cts f)])=frs true (l.set j ⟨a,b,c,d,e,f⟩):=by simp[frs,Fr.v,List.map_set]
@[simp] theorem qGf (l:List Fr) (a:Int) (b:Int) (c:Int) (d:Int) (e:List Et) (f:List Ct):frs false l++[V.agg [.int .i64 a,.int .i64 b,.int .i64 c,.int .i64 d,.lst false 0 (ets false e),.lst false 0 (cts f)]]=frs false (l++[⟨a,b,c,d,e,f⟩]):=by simp[frs,Fr.v]
@[simp] theorem qLg (l:List Fr) (j:Nat) (a:Int) (b:Int) (c:Int) (d:Int) (e:List Et) (f:List Ct):(frs false l).set j (V.agg [.int .i64 a,.int .i64 b,.int .i64 c,.int .i64 d,.lst false 0 (ets false e),.lst false 0 (cts f)])=frs false (l.set j ⟨a,b,c,d,e,f⟩):=by simp[frs,Fr.v,List.map_set]
@[simp] theorem frs_set (t:Bool) (l:List Fr) (i:Nat) (x:Fr):(frs t l).set i (x.v t)=frs t (l.set i x):=by simp[frs,List.map_set]
theorem qF3 {t:Bool} {l:List Fr} {i:Nat} {x:Fr} (h:l[i]? = some x):(frs t l)[i]? = some (x.v t):=by simp[frs,h]
theorem qI6 {t:Bool} {l:List Fr} {i:Nat} (h:i<l.length):(frs t l)[(i:Int).toNat]? = some (l[i].v t):=qF3 (by simp[h])
theorem qC5 {t:Bool} {l:List Fr} {i:Nat} (h:i<l.length):∃x,l[i]? = some x/\l.drop i=x::l.drop (i+1)/\(frs t l)[(i:Int).toNat]? = some (x.v t) :=
 ⟨l[i],by simp[h],List.drop_eq_getElem_cons h,qI6 h⟩
@[simp] theorem frs_take (t:Bool) (n:Nat) (l:List Fr):(frs t l).take n=frs t (l.take n):=by simp[frs,List.map_take]
@[simp] theorem frs_drop (t:Bool) (n:Nat) (l:List Fr):(frs t l).drop n=frs t (l.drop n):=by simp[frs,List.map_drop]
@[simp] theorem Fr.cells_v (t:Bool) (x:Fr):(x.v t).cells=6:=rfl
@[simp] theorem Fr.mention (t:Bool) (x:Fr):V.mention (x.v t)=[]:=by simp[Fr.v,V.mention,V.mentionL,yX]
@[simp] theorem Fr.share (t:Bool) (x:Fr):(x.v t).share=x.v false:=by simp[Fr.v,V.share,V.shareL,yV,kO,zC0]
@[simp] theorem zIl (t:Bool) (l:List Fr):V.shareL (frs t l)=frs false l:=by
 induction l with
 | nil=>rfl
 | cons x l ih=>simp[V.shareL,ih]
@[simp] theorem Fr.snap (t:Bool) (x:Fr) (q:St):V.snap q (x.v t)=some (x.v false):=by simp[Fr.v,V.snap,V.snapL,mp,kO,zC0]
@[simp] theorem Fr.snapA (t:Bool) (x:Fr) (q:St):V.snapA q (x.v t)=some (x.v false):=Fr.snap t x q
@[simp] theorem Fr.snapP (t:Bool) (x:Fr) (q:St):V.snapP q (x.v t)=some (x.v false):=Fr.snap t x q
@[simp] theorem Fr.accM (t:Bool) (x:Fr):V.accM (x.v t)=[]:=by simp[Fr.v,V.accM,V.accML]
@[simp] theorem Fr.accF (t:Bool) (x:Fr):V.accF (x.v t)=[]:=by simp[Fr.v,V.accF,V.accFL]
@[simp] theorem Fr.ren (t:Bool) (x:Fr) (ρ:Nat->Option Nat) (vr:Nat->Nat):V.ren ρ vr (x.v t)=x.v t:=by simp[Fr.v,V.ren,V.renL]
@[simp] theorem Fr.bA (i:Nat) (t:Bool) (x:Fr) (r:List V):zQ i (x.v t::r)=((i,x.v t)::(zQ (i+1) r).1,(zQ (i+1) r).2):=rfl
@[simp] theorem Fr.lodF (x:Fr) (o i ver:Nat) (fs:List Nat):V.lod o i ver fs (x.v false)=x.v false:=by simp[Fr.v,V.lod,V.lodL]
@[simp] theorem Fr.fzF (x:Fr) (s:St):V.fz (x.v false) s=some (x.v false,s):=by simp[Fr.v,V.fz,V.fzL,mp]
@[simp] theorem Fr.fzI (t:Bool) (x:Fr) (s:St):V.fzI (x.v t) s=some (x.v t,s):=by cases t<;>simp[Fr.v,V.fz,V.fzI,V.fzIL,mp]
@[simp] theorem Fr.scal (t:Bool) (x:Fr):V.scal (x.v t)=false:=by simp[Fr.v,V.scal,V.scalL]
@[simp] theorem Fr.isTup (t:Bool) (x:Fr):(x.v t).isTup=false:=rfl
@[simp] theorem Fr.tidyT (x:Fr):V.tidy (x.v true)=true:=by simp[Fr.v,V.tidy,V.tidyL,zBv,zLo]
@[simp] theorem zVa (l:List Fr):V.tidyL (frs true l)=true:=by
 induction l with
 | nil=>rfl
 | cons x l ih=>simp[V.tidyL,ih]
@[simp] theorem Fr.thawF (x:Fr) (id:Nat):V.thaw id (x.v false)=(x.v false,[],id):=by simp[Fr.v,V.thaw,V.thawL]
@[simp] theorem Fr.thawT (x:Fr) (id:Nat):V.thaw id (x.v true)=(.agg [.int .i64 x.kind,.int .i64 x.node,.int .i64 x.side,.int .i64 x.ep,.ref (id) 0 x.set.length,.ref (id+1) 0 x.news.length],[(id,⟨false,false,2,ets true x.set,0⟩),(id+1,⟨false,false,3,cts x.news,0⟩)],id+1+1):=by simp[Fr.v,V.thaw,V.thawL]
structure Bt where
 side:Int
 ep:Int
 set:List Et
 deriving DecidableEq
theorem Bt.eq_iff {d g:Bt}:d=g↔d.side=g.side/\d.ep=g.ep/\d.set=g.set:=by
 cases d;cases g;simp
def Bt.v (t:Bool) (x:Bt):V:=.agg [.int .i64 x.side,.int .i64 x.ep,.lst t (lz t 2) (ets t x.set)]
def bts (t:Bool) (l:List Bt):List V:=l.map (Bt.v t)
@[simp] theorem bts_len (t:Bool) (l:List Bt):(bts t l).length=l.length:=by simp[bts]
@[simp] theorem bts_nil (t:Bool):bts t []=[]:=rfl
@[simp] theorem bts_cons (t:Bool) (x:Bt) (l:List Bt):bts t (x::l)=x.v t::bts t l:=rfl
@[simp] theorem bts_join (t:Bool) (l m:List Bt):bts t l++bts t m=bts t (l++m):=by simp[bts]
@[simp] theorem bts_snoc (t:Bool) (l:List Bt) (x:Bt):bts t l++[x.v t]=bts t (l++[x]):=by simp[bts]
@[simp] theorem qH1 (l:List Bt) (a:Int) (b:Int) (c:List Et):bts true l++[V.agg [.int .i64 a,.int .i64 b,.lst true 2 (ets true c)]]=bts true (l++[⟨a,b,c⟩]):=by simp[bts,Bt.v]
@[simp] theorem qL1 (l:List Bt) (j:Nat) (a:Int) (b:Int) (c:List Et):(bts true l).set j (V.agg [.int .i64 a,.int .i64 b,.lst true 2 (ets true c)])=bts true (l.set j ⟨a,b,c⟩):=by simp[bts,Bt.v,List.map_set]
@[simp] theorem qGo (l:List Bt) (a:Int) (b:Int) (c:List Et):bts false l++[V.agg [.int .i64 a,.int .i64 b,.lst false 0 (ets false c)]]=bts false (l++[⟨a,b,c⟩]):=by simp[bts,Bt.v]
@[simp] theorem qL0 (l:List Bt) (j:Nat) (a:Int) (b:Int) (c:List Et):(bts false l).set j (V.agg [.int .i64 a,.int .i64 b,.lst false 0 (ets false c)])=bts false (l.set j ⟨a,b,c⟩):=by simp[bts,Bt.v,List.map_set]
@[simp] theorem bts_set (t:Bool) (l:List Bt) (i:Nat) (x:Bt):(bts t l).set i (x.v t)=bts t (l.set i x):=by simp[bts,List.map_set]
@[simp] theorem bts_take (t:Bool) (n:Nat) (l:List Bt):(bts t l).take n=bts t (l.take n):=by simp[bts,List.map_take]
@[simp] theorem bts_drop (t:Bool) (n:Nat) (l:List Bt):(bts t l).drop n=bts t (l.drop n):=by simp[bts,List.map_drop]
@[simp] theorem Bt.cells_v (t:Bool) (x:Bt):(x.v t).cells=3:=rfl
@[simp] theorem Bt.mention (t:Bool) (x:Bt):V.mention (x.v t)=[]:=by simp[Bt.v,V.mention,V.mentionL,yX]
@[simp] theorem Bt.share (t:Bool) (x:Bt):(x.v t).share=x.v false:=by simp[Bt.v,V.share,V.shareL,yV,kO]
@[simp] theorem zIf (t:Bool) (l:List Bt):V.shareL (bts t l)=bts false l:=by
 induction l with
 | nil=>rfl
 | cons x l ih=>simp[V.shareL,ih]
@[simp] theorem Bt.snap (t:Bool) (x:Bt) (q:St):V.snap q (x.v t)=some (x.v false):=by simp[Bt.v,V.snap,V.snapL,mp,kO]
@[simp] theorem Bt.snapA (t:Bool) (x:Bt) (q:St):V.snapA q (x.v t)=some (x.v false):=Bt.snap t x q
@[simp] theorem Bt.snapP (t:Bool) (x:Bt) (q:St):V.snapP q (x.v t)=some (x.v false):=Bt.snap t x q
@[simp] theorem Bt.accM (t:Bool) (x:Bt):V.accM (x.v t)=[]:=by simp[Bt.v,V.accM,V.accML]
@[simp] theorem Bt.accF (t:Bool) (x:Bt):V.accF (x.v t)=[]:=by simp[Bt.v,V.accF,V.accFL]
@[simp] theorem Bt.ren (t:Bool) (x:Bt) (ρ:Nat->Option Nat) (vr:Nat->Nat):V.ren ρ vr (x.v t)=x.v t:=by simp[Bt.v,V.ren,V.renL]
@[simp] theorem Bt.bA (i:Nat) (t:Bool) (x:Bt) (r:List V):zQ i (x.v t::r)=((i,x.v t)::(zQ (i+1) r).1,(zQ (i+1) r).2):=rfl
@[simp] theorem Bt.lodF (x:Bt) (o i ver:Nat) (fs:List Nat):V.lod o i ver fs (x.v false)=x.v false:=by simp[Bt.v,V.lod,V.lodL]
@[simp] theorem Bt.fzF (x:Bt) (s:St):V.fz (x.v false) s=some (x.v false,s):=by simp[Bt.v,V.fz,V.fzL,mp]
@[simp] theorem Bt.fzI (t:Bool) (x:Bt) (s:St):V.fzI (x.v t) s=some (x.v t,s):=by cases t<;>simp[Bt.v,V.fz,V.fzI,V.fzIL,mp]
@[simp] theorem Bt.scal (t:Bool) (x:Bt):V.scal (x.v t)=false:=by simp[Bt.v,V.scal,V.scalL]
@[simp] theorem Bt.isTup (t:Bool) (x:Bt):(x.v t).isTup=false:=rfl
@[simp] theorem Bt.tidyT (x:Bt):V.tidy (x.v true)=true:=by simp[Bt.v,V.tidy,V.tidyL,zBv]
@[simp] theorem zX5 (l:List Bt):V.tidyL (bts true l)=true:=by
 induction l with
 | nil=>rfl
 | cons x l ih=>simp[V.tidyL,ih]
@[simp] theorem Bt.thawF (x:Bt) (id:Nat):V.thaw id (x.v false)=(x.v false,[],id):=by simp[Bt.v,V.thaw,V.thawL]
@[simp] theorem Bt.thawT (x:Bt) (id:Nat):V.thaw id (x.v true)=(.agg [.int .i64 x.side,.int .i64 x.ep,.ref (id) 0 x.set.length],[(id,⟨false,false,2,ets true x.set,0⟩)],id+1):=by simp[Bt.v,V.thaw,V.thawL]
structure Hd where
 oldA:List Et
 oldB:List Et
 waits:List Bt
 told:Int
 deriving DecidableEq
theorem Hd.eq_iff {d g:Hd}:d=g↔d.oldA=g.oldA/\d.oldB=g.oldB/\d.waits=g.waits/\d.told=g.told:=by
 cases d;cases g;simp
def Hd.v (t:Bool) (x:Hd):V:=.agg [.lst t (lz t 2) (ets t x.oldA),.lst t (lz t 2) (ets t x.oldB),.lst t (lz t 3) (bts t x.waits),.int .i64 x.told]
def hds (t:Bool) (l:List Hd):List V:=l.map (Hd.v t)
@[simp] theorem hds_len (t:Bool) (l:List Hd):(hds t l).length=l.length:=by simp[hds]
@[simp] theorem hds_nil (t:Bool):hds t []=[]:=rfl
@[simp] theorem hds_cons (t:Bool) (x:Hd) (l:List Hd):hds t (x::l)=x.v t::hds t l:=rfl
@[simp] theorem hds_join (t:Bool) (l m:List Hd):hds t l++hds t m=hds t (l++m):=by simp[hds]
@[simp] theorem hds_snoc (t:Bool) (l:List Hd) (x:Hd):hds t l++[x.v t]=hds t (l++[x]):=by simp[hds]
@[simp] theorem qH8 (l:List Hd) (a:List Et) (b:List Et) (c:List Bt) (d:Int):hds true l++[V.agg [.lst true 2 (ets true a),.lst true 2 (ets true b),.lst true 3 (bts true c),.int .i64 d]]=hds true (l++[⟨a,b,c,d⟩]):=by simp[hds,Hd.v]
@[simp] theorem qK9 (l:List Hd) (j:Nat) (a:List Et) (b:List Et) (c:List Bt) (d:Int):(hds true l).set j (V.agg [.lst true 2 (ets true a),.lst true 2 (ets true b),.lst true 3 (bts true c),.int .i64 d])=hds true (l.set j ⟨a,b,c,d⟩):=by simp[hds,Hd.v,List.map_set]
@[simp] theorem qHd (l:List Hd) (a:List Et) (b:List Et) (c:List Bt) (d:Int):hds false l++[V.agg [.lst false 0 (ets false a),.lst false 0 (ets false b),.lst false 0 (bts false c),.int .i64 d]]=hds false (l++[⟨a,b,c,d⟩]):=by simp[hds,Hd.v]
@[simp] theorem qLx (l:List Hd) (j:Nat) (a:List Et) (b:List Et) (c:List Bt) (d:Int):(hds false l).set j (V.agg [.lst false 0 (ets false a),.lst false 0 (ets false b),.lst false 0 (bts false c),.int .i64 d])=hds false (l.set j ⟨a,b,c,d⟩):=by simp[hds,Hd.v,List.map_set]
@[simp] theorem hds_set (t:Bool) (l:List Hd) (i:Nat) (x:Hd):(hds t l).set i (x.v t)=hds t (l.set i x):=by simp[hds,List.map_set]
@[simp] theorem hds_take (t:Bool) (n:Nat) (l:List Hd):(hds t l).take n=hds t (l.take n):=by simp[hds,List.map_take]
@[simp] theorem hds_drop (t:Bool) (n:Nat) (l:List Hd):(hds t l).drop n=hds t (l.drop n):=by simp[hds,List.map_drop]
@[simp] theorem Hd.cells_v (t:Bool) (x:Hd):(x.v t).cells=4:=rfl
@[simp] theorem Hd.mention (t:Bool) (x:Hd):V.mention (x.v t)=[]:=by simp[Hd.v,V.mention,V.mentionL,yX]
@[simp] theorem Hd.share (t:Bool) (x:Hd):(x.v t).share=x.v false:=by simp[Hd.v,V.share,V.shareL,yV,kO,kO,zIf]
@[simp] theorem zIu (t:Bool) (l:List Hd):V.shareL (hds t l)=hds false l:=by
 induction l with
 | nil=>rfl
 | cons x l ih=>simp[V.shareL,ih]
@[simp] theorem Hd.snap (t:Bool) (x:Hd) (q:St):V.snap q (x.v t)=some (x.v false):=by simp[Hd.v,V.snap,V.snapL,mp,kO,kO,zIf]
@[simp] theorem Hd.snapA (t:Bool) (x:Hd) (q:St):V.snapA q (x.v t)=some (x.v false):=Hd.snap t x q
@[simp] theorem Hd.snapP (t:Bool) (x:Hd) (q:St):V.snapP q (x.v t)=some (x.v false):=Hd.snap t x q
@[simp] theorem Hd.accM (t:Bool) (x:Hd):V.accM (x.v t)=[]:=by simp[Hd.v,V.accM,V.accML]
@[simp] theorem Hd.accF (t:Bool) (x:Hd):V.accF (x.v t)=[]:=by simp[Hd.v,V.accF,V.accFL]
@[simp] theorem Hd.ren (t:Bool) (x:Hd) (ρ:Nat->Option Nat) (vr:Nat->Nat):V.ren ρ vr (x.v t)=x.v t:=by simp[Hd.v,V.ren,V.renL]
@[simp] theorem Hd.bA (i:Nat) (t:Bool) (x:Hd) (r:List V):zQ i (x.v t::r)=((i,x.v t)::(zQ (i+1) r).1,(zQ (i+1) r).2):=rfl
@[simp] theorem Hd.lodF (x:Hd) (o i ver:Nat) (fs:List Nat):V.lod o i ver fs (x.v false)=x.v false:=by simp[Hd.v,V.lod,V.lodL]
@[simp] theorem Hd.fzF (x:Hd) (s:St):V.fz (x.v false) s=some (x.v false,s):=by simp[Hd.v,V.fz,V.fzL,mp]
@[simp] theorem Hd.fzI (t:Bool) (x:Hd) (s:St):V.fzI (x.v t) s=some (x.v t,s):=by cases t<;>simp[Hd.v,V.fz,V.fzI,V.fzIL,mp]
@[simp] theorem Hd.scal (t:Bool) (x:Hd):V.scal (x.v t)=false:=by simp[Hd.v,V.scal,V.scalL]
@[simp] theorem Hd.isTup (t:Bool) (x:Hd):(x.v t).isTup=false:=rfl
@[simp] theorem Hd.tidyT (x:Hd):V.tidy (x.v true)=true:=by simp[Hd.v,V.tidy,V.tidyL,zBv,zBv,zX5]
@[simp] theorem zW8 (l:List Hd):V.tidyL (hds true l)=true:=by
 induction l with
 | nil=>rfl
 | cons x l ih=>simp[V.tidyL,ih]
@[simp] theorem Hd.thawF (x:Hd) (id:Nat):V.thaw id (x.v false)=(x.v false,[],id):=by simp[Hd.v,V.thaw,V.thawL]
@[simp] theorem Hd.thawT (x:Hd) (id:Nat):V.thaw id (x.v true)=(.agg [.ref (id) 0 x.oldA.length,.ref (id+1) 0 x.oldB.length,.ref (id+1+1) 0 x.waits.length,.int .i64 x.told],[(id,⟨false,false,2,ets true x.oldA,0⟩),(id+1,⟨false,false,2,ets true x.oldB,0⟩),(id+1+1,⟨false,false,3,bts true x.waits,0⟩)],id+1+1+1):=by simp[Hd.v,V.thaw,V.thawL]
structure Rl where
 node:Int
 ep:Int
 set:List Et
 deriving DecidableEq
theorem Rl.eq_iff {d g:Rl}:d=g↔d.node=g.node/\d.ep=g.ep/\d.set=g.set:=by
 cases d;cases g;simp
def Rl.v (t:Bool) (x:Rl):V:=.agg [.int .i64 x.node,.int .i64 x.ep,.lst t (lz t 2) (ets t x.set)]
def rls (t:Bool) (l:List Rl):List V:=l.map (Rl.v t)
@[simp] theorem rls_len (t:Bool) (l:List Rl):(rls t l).length=l.length:=by simp[rls]
@[simp] theorem rls_nil (t:Bool):rls t []=[]:=rfl
@[simp] theorem rls_cons (t:Bool) (x:Rl) (l:List Rl):rls t (x::l)=x.v t::rls t l:=rfl
@[simp] theorem rls_join (t:Bool) (l m:List Rl):rls t l++rls t m=rls t (l++m):=by simp[rls]
@[simp] theorem rls_snoc (t:Bool) (l:List Rl) (x:Rl):rls t l++[x.v t]=rls t (l++[x]):=by simp[rls]
@[simp] theorem qGh (l:List Rl) (a:Int) (b:Int) (c:List Et):rls true l++[V.agg [.int .i64 a,.int .i64 b,.lst true 2 (ets true c)]]=rls true (l++[⟨a,b,c⟩]):=by simp[rls,Rl.v]
@[simp] theorem qLk (l:List Rl) (j:Nat) (a:Int) (b:Int) (c:List Et):(rls true l).set j (V.agg [.int .i64 a,.int .i64 b,.lst true 2 (ets true c)])=rls true (l.set j ⟨a,b,c⟩):=by simp[rls,Rl.v,List.map_set]
@[simp] theorem qHi (l:List Rl) (a:Int) (b:Int) (c:List Et):rls false l++[V.agg [.int .i64 a,.int .i64 b,.lst false 0 (ets false c)]]=rls false (l++[⟨a,b,c⟩]):=by simp[rls,Rl.v]
@[simp] theorem qLs (l:List Rl) (j:Nat) (a:Int) (b:Int) (c:List Et):(rls false l).set j (V.agg [.int .i64 a,.int .i64 b,.lst false 0 (ets false c)])=rls false (l.set j ⟨a,b,c⟩):=by simp[rls,Rl.v,List.map_set]
@[simp] theorem rls_set (t:Bool) (l:List Rl) (i:Nat) (x:Rl):(rls t l).set i (x.v t)=rls t (l.set i x):=by simp[rls,List.map_set]
@[simp] theorem rls_take (t:Bool) (n:Nat) (l:List Rl):(rls t l).take n=rls t (l.take n):=by simp[rls,List.map_take]
@[simp] theorem rls_drop (t:Bool) (n:Nat) (l:List Rl):(rls t l).drop n=rls t (l.drop n):=by simp[rls,List.map_drop]
@[simp] theorem Rl.cells_v (t:Bool) (x:Rl):(x.v t).cells=3:=rfl
@[simp] theorem Rl.mention (t:Bool) (x:Rl):V.mention (x.v t)=[]:=by simp[Rl.v,V.mention,V.mentionL,yX]
@[simp] theorem Rl.share (t:Bool) (x:Rl):(x.v t).share=x.v false:=by simp[Rl.v,V.share,V.shareL,yV,kO]
@[simp] theorem zIw (t:Bool) (l:List Rl):V.shareL (rls t l)=rls false l:=by
 induction l with
 | nil=>rfl
 | cons x l ih=>simp[V.shareL,ih]
@[simp] theorem Rl.snap (t:Bool) (x:Rl) (q:St):V.snap q (x.v t)=some (x.v false):=by simp[Rl.v,V.snap,V.snapL,mp,kO]
@[simp] theorem Rl.snapA (t:Bool) (x:Rl) (q:St):V.snapA q (x.v t)=some (x.v false):=Rl.snap t x q
@[simp] theorem Rl.snapP (t:Bool) (x:Rl) (q:St):V.snapP q (x.v t)=some (x.v false):=Rl.snap t x q
@[simp] theorem Rl.accM (t:Bool) (x:Rl):V.accM (x.v t)=[]:=by simp[Rl.v,V.accM,V.accML]
@[simp] theorem Rl.accF (t:Bool) (x:Rl):V.accF (x.v t)=[]:=by simp[Rl.v,V.accF,V.accFL]
@[simp] theorem Rl.ren (t:Bool) (x:Rl) (ρ:Nat->Option Nat) (vr:Nat->Nat):V.ren ρ vr (x.v t)=x.v t:=by simp[Rl.v,V.ren,V.renL]
@[simp] theorem Rl.bA (i:Nat) (t:Bool) (x:Rl) (r:List V):zQ i (x.v t::r)=((i,x.v t)::(zQ (i+1) r).1,(zQ (i+1) r).2):=rfl
@[simp] theorem Rl.lodF (x:Rl) (o i ver:Nat) (fs:List Nat):V.lod o i ver fs (x.v false)=x.v false:=by simp[Rl.v,V.lod,V.lodL]
@[simp] theorem Rl.fzF (x:Rl) (s:St):V.fz (x.v false) s=some (x.v false,s):=by simp[Rl.v,V.fz,V.fzL,mp]
@[simp] theorem Rl.fzI (t:Bool) (x:Rl) (s:St):V.fzI (x.v t) s=some (x.v t,s):=by cases t<;>simp[Rl.v,V.fz,V.fzI,V.fzIL,mp]
@[simp] theorem Rl.scal (t:Bool) (x:Rl):V.scal (x.v t)=false:=by simp[Rl.v,V.scal,V.scalL]
@[simp] theorem Rl.isTup (t:Bool) (x:Rl):(x.v t).isTup=false:=rfl
@[simp] theorem Rl.tidyT (x:Rl):V.tidy (x.v true)=true:=by simp[Rl.v,V.tidy,V.tidyL,zBv]
@[simp] theorem zVd (l:List Rl):V.tidyL (rls true l)=true:=by
 induction l with
 | nil=>rfl
 | cons x l ih=>simp[V.tidyL,ih]
@[simp] theorem Rl.thawF (x:Rl) (id:Nat):V.thaw id (x.v false)=(x.v false,[],id):=by simp[Rl.v,V.thaw,V.thawL]
@[simp] theorem Rl.thawT (x:Rl) (id:Nat):V.thaw id (x.v true)=(.agg [.int .i64 x.node,.int .i64 x.ep,.ref (id) 0 x.set.length],[(id,⟨false,false,2,ets true x.set,0⟩)],id+1):=by simp[Rl.v,V.thaw,V.thawL]
structure Wk where
 inbox:List Fr
 counts:List Ct
 nodes:List Hd
 ep:Int
 top:Int
 outs:List Rl
 bad:Bool
 deriving DecidableEq
theorem Wk.eq_iff {d g:Wk}:d=g↔d.inbox=g.inbox/\d.counts=g.counts/\d.nodes=g.nodes/\d.ep=g.ep/\d.top=g.top/\d.outs=g.outs/\d.bad=g.bad:=by
 cases d;cases g;simp
def Wk.v (t:Bool) (x:Wk):V:=.agg [.lst t (lz t 6) (frs t x.inbox),.lst t (lz t 3) (cts x.counts),.lst t (lz t 4) (hds t x.nodes),.int .i64 x.ep,.int .i64 x.top,.lst t (lz t 3) (rls t x.outs),.bool x.bad]
def wks (t:Bool) (l:List Wk):List V:=l.map (Wk.v t)
@[simp] theorem wks_len (t:Bool) (l:List Wk):(wks t l).length=l.length:=by simp[wks]
@[simp] theorem wks_nil (t:Bool):wks t []=[]:=rfl
@[simp] theorem wks_cons (t:Bool) (x:Wk) (l:List Wk):wks t (x::l)=x.v t::wks t l:=rfl
@[simp] theorem wks_join (t:Bool) (l m:List Wk):wks t l++wks t m=wks t (l++m):=by simp[wks]
@[simp] theorem wks_snoc (t:Bool) (l:List Wk) (x:Wk):wks t l++[x.v t]=wks t (l++[x]):=by simp[wks]
@[simp] theorem qH0 (l:List Wk) (a:List Fr) (b:List Ct) (c:List Hd) (d:Int) (e:Int) (f:List Rl) (g:Bool):wks true l++[V.agg [.lst true 6 (frs true a),.lst true 3 (cts b),.lst true 4 (hds true c),.int .i64 d,.int .i64 e,.lst true 3 (rls true f),.bool g]]=wks true (l++[⟨a,b,c,d,e,f,g⟩]):=by simp[wks,Wk.v]
@[simp] theorem qIe (l:List Wk) (j:Nat) (a:List Fr) (b:List Ct) (c:List Hd) (d:Int) (e:Int) (f:List Rl) (g:Bool):(wks true l).set j (V.agg [.lst true 6 (frs true a),.lst true 3 (cts b),.lst true 4 (hds true c),.int .i64 d,.int .i64 e,.lst true 3 (rls true f),.bool g])=wks true (l.set j ⟨a,b,c,d,e,f,g⟩):=by simp[wks,Wk.v,List.map_set]
@[simp] theorem qHk (l:List Wk) (a:List Fr) (b:List Ct) (c:List Hd) (d:Int) (e:Int) (f:List Rl) (g:Bool):wks false l++[V.agg [.lst false 0 (frs false a),.lst false 0 (cts b),.lst false 0 (hds false c),.int .i64 d,.int .i64 e,.lst false 0 (rls false f),.bool g]]=wks false (l++[⟨a,b,c,d,e,f,g⟩]):=by simp[wks,Wk.v]
@[simp] theorem qJn (l:List Wk) (j:Nat) (a:List Fr) (b:List Ct) (c:List Hd) (d:Int) (e:Int) (f:List Rl) (g:Bool):(wks false l).set j (V.agg [.lst false 0 (frs false a),.lst false 0 (cts b),.lst false 0 (hds false c),.int .i64 d,.int .i64 e,.lst false 0 (rls false f),.bool g])=wks false (l.set j ⟨a,b,c,d,e,f,g⟩):=by simp[wks,Wk.v,List.map_set]
@[simp] theorem wks_set (t:Bool) (l:List Wk) (i:Nat) (x:Wk):(wks t l).set i (x.v t)=wks t (l.set i x):=by simp[wks,List.map_set]
@[simp] theorem wks_take (t:Bool) (n:Nat) (l:List Wk):(wks t l).take n=wks t (l.take n):=by simp[wks,List.map_take]
@[simp] theorem wks_drop (t:Bool) (n:Nat) (l:List Wk):(wks t l).drop n=wks t (l.drop n):=by simp[wks,List.map_drop]
@[simp] theorem Wk.cells_v (t:Bool) (x:Wk):(x.v t).cells=7:=rfl
@[simp] theorem Wk.mention (t:Bool) (x:Wk):V.mention (x.v t)=[]:=by simp[Wk.v,V.mention,V.mentionL,yX]
@[simp] theorem Wk.share (t:Bool) (x:Wk):(x.v t).share=x.v false:=by simp[Wk.v,V.share,V.shareL,yV,zIl,zC0,zIu,zIw]
@[simp] theorem qGp (t:Bool) (l:List Wk):V.shareL (wks t l)=wks false l:=by
 induction l with
 | nil=>rfl
 | cons x l ih=>simp[V.shareL,ih]
@[simp] theorem Wk.snap (t:Bool) (x:Wk) (q:St):V.snap q (x.v t)=some (x.v false):=by simp[Wk.v,V.snap,V.snapL,mp,zIl,zC0,zIu,zIw]
@[simp] theorem Wk.snapA (t:Bool) (x:Wk) (q:St):V.snapA q (x.v t)=some (x.v false):=Wk.snap t x q
@[simp] theorem Wk.snapP (t:Bool) (x:Wk) (q:St):V.snapP q (x.v t)=some (x.v false):=Wk.snap t x q
@[simp] theorem Wk.accM (t:Bool) (x:Wk):V.accM (x.v t)=[]:=by simp[Wk.v,V.accM,V.accML]
@[simp] theorem Wk.accF (t:Bool) (x:Wk):V.accF (x.v t)=[]:=by simp[Wk.v,V.accF,V.accFL]
@[simp] theorem Wk.ren (t:Bool) (x:Wk) (ρ:Nat->Option Nat) (vr:Nat->Nat):V.ren ρ vr (x.v t)=x.v t:=by simp[Wk.v,V.ren,V.renL]
@[simp] theorem Wk.bA (i:Nat) (t:Bool) (x:Wk) (r:List V):zQ i (x.v t::r)=((i,x.v t)::(zQ (i+1) r).1,(zQ (i+1) r).2):=rfl
@[simp] theorem Wk.lodF (x:Wk) (o i ver:Nat) (fs:List Nat):V.lod o i ver fs (x.v false)=x.v false:=by simp[Wk.v,V.lod,V.lodL]
@[simp] theorem Wk.fzF (x:Wk) (s:St):V.fz (x.v false) s=some (x.v false,s):=by simp[Wk.v,V.fz,V.fzL,mp]
@[simp] theorem Wk.fzI (t:Bool) (x:Wk) (s:St):V.fzI (x.v t) s=some (x.v t,s):=by cases t<;>simp[Wk.v,V.fz,V.fzI,V.fzIL,mp]
@[simp] theorem Wk.scal (t:Bool) (x:Wk):V.scal (x.v t)=false:=by simp[Wk.v,V.scal,V.scalL]
@[simp] theorem Wk.isTup (t:Bool) (x:Wk):(x.v t).isTup=false:=rfl
@[simp] theorem Wk.tidyT (x:Wk):V.tidy (x.v true)=true:=by simp[Wk.v,V.tidy,V.tidyL,zVa,zLo,zW8,zVd]
@[simp] theorem qJt (l:List Wk):V.tidyL (wks true l)=true:=by
 induction l with
 | nil=>rfl
 | cons x l ih=>simp[V.tidyL,ih]
@[simp] theorem Wk.thawF (x:Wk) (id:Nat):V.thaw id (x.v false)=(x.v false,[],id):=by simp[Wk.v,V.thaw,V.thawL]
@[simp] theorem Wk.thawT (x:Wk) (id:Nat):V.thaw id (x.v true)=(.agg [.ref (id) 0 x.inbox.length,.ref (id+1) 0 x.counts.length,.ref (id+1+1) 0 x.nodes.length,.int .i64 x.ep,.int .i64 x.top,.ref (id+1+1+1) 0 x.outs.length,.bool x.bad],[(id,⟨false,false,6,frs true x.inbox,0⟩),(id+1,⟨false,false,3,cts x.counts,0⟩),(id+1+1,⟨false,false,4,hds true x.nodes,0⟩),(id+1+1+1,⟨false,false,3,rls true x.outs,0⟩)],id+1+1+1+1):=by simp[Wk.v,V.thaw,V.thawL]
def wS {α:Type} (f:α->Nat) (l:List α):Nat:=(l.map f).sum
@[simp] theorem wS_nil {α:Type} (f:α->Nat):wS f []=0:=rfl
@[simp] theorem zBw {α:Type} (f:α->Nat) (x:α) (l:List α):wS f (x::l)=f x+wS f l:=by simp[wS]
theorem zU9 {α:Type} {f:α->Nat}:∀{l:List α} {x:α},x∈l->f x<=wS f l
 | y::l,x,h=>by
  rcases List.mem_cons.1 h with rfl|h
  ·simp
  ·have:=zU9 (f:=f) h;simp;omega
def zS1 (x:Et):Nat:=x.row.length
def jY (l:List Et):Nat:=l.length+wS zS1 l
theorem zAa {l:List Et} {x:Et} (h:x∈l):l.length+zS1 x<=jY l:=by
 have:=zU9 (f:=zS1) h;unfold jY;omega
theorem kY {l:List Et}:l.length<=jY l:=by unfold jY;omega
def w_Fr (x:Fr):Nat:=jY x.set+x.news.length
end Go.Proofs.YtbcgenkegnmkhaaGreat.Ev
namespace Go.Proofs.YtbcgenkegnmkhaaGreat.Ev
open Go
set_option maxRecDepth 100000
set_option linter.unusedSimpArgs false
set_option linter.unusedVariables false
set_option maxHeartbeats 2000000
theorem oc_ok:jP Tryz.prog oc.call:=by
 unfold oc;exact zYt (by kernel_rfl) tb
end Go.Proofs.YtbcgenkegnmkhaaGreat.Ev
