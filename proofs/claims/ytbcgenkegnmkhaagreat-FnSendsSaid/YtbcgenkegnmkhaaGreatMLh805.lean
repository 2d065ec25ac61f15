/- Part 5 of the proof that the law named in the last part returns true at every argument: an evaluator of the program, shown sound, and its runs. No further conditions. -/
import Derived.Test.YtbcgenkegnmkhaaGreatMLh804
namespace Go.Proofs.YtbcgenkegnmkhaaGreat.Ev
open Go
set_option maxRecDepth 100000
set_option linter.unusedSimpArgs false
set_option linter.unusedVariables false
set_option maxHeartbeats 2000000
theorem qBd {Q:V×List V->Prop} {f:FuncId} {fn:Func} {body:Code} {args:List V} {e:List (Nat×V)} {o:List (Nat×Ob)} {n:Nat} (hf:cf.code f=some fn) (hb:fn.body=some body) (hl:args.length=n) (hl2:n=fn.params.size+fn.nfree) (he:(zQ 0 args).1=e) (ho:(zQ 0 args).2=o)
  (h:wpC oc cf f body ⟨e,o,n⟩ (fun e s=>(e = .normal\/e = .ret)/\∃vs,zEz cf s fn.results.toList=some vs/\∃r,V.fzL vs ⟨[],s.obs,s.nxt⟩=r/\∃q,r=some q/\∃os,xT 0 args q.2=some os/\Q (zFi q.1,os))):∃r,vW oc cf f args=some r/\Q r:=by
 obtain⟨r,h1,h2,vs,h3,q,h4,u,h5,os,h6,h7⟩:=h;exact⟨_,zCx hf hb hl hl2 he ho ⟨r,h1,h2,vs,h3,q,h4,u,h5,os,h6,rfl⟩,h7⟩
theorem qIh {v:Int} (h:v=1\/v=2):rightP [⟨1,0,0,v,0,0,[]⟩]:=by
 refine⟨by simp,by simp,by simp,?_⟩;rcases h with rfl|rfl<;>rfl
theorem qJu {v u:Int} (h:v=1\/v=2) (h2:u=1\/u=2):rightP [⟨1,0,0,v,0,0,[]⟩,⟨1,0,0,u,0,0,[]⟩]:=by
 refine⟨by simp,by simp,by simp,?_⟩;rcases h with rfl|rfl<;>rcases h2 with rfl|rfl<;>rfl
def planP (l:List Nd):Prop:=l.length<=9/\∀d∈l,d.cells.length<=4
theorem planP.ok {l:List Nd} (h:planP l):okN l:=fun d hd=>by have:=h.2 d hd;omega
theorem qC2 (c:List Int) (a:Nat) (hc:okS c) (ha:a<500000000):∃r,oc.call 186 [.iop (qZ c a)]=some r/\(∃(pl:List Nd) (a':Nat),r=(.lst true 7 (nds true 1 pl),[qZ c a'])/\1<=pl.length/\pl.length<=8/\(∀d∈pl,d.cells.length<=3)/\a'<=a+300):=by
 refine qAd (Q:=fun r=>∃(pl:List Nd) (a':Nat),r=(.lst true 7 (nds true 1 pl),[qZ c a'])/\1<=pl.length/\pl.length<=8/\(∀d∈pl,d.cells.length<=3)/\a'<=a+300) rfl qL7 rfl rfl rfl (by simp;rfl) (by simp;rfl) ?_;have x1:=jL (c:=c) (a:=a) (n:=2) (by omega);obtain⟨v1,hv1⟩:∃v:Int,1+jQ c a 2=v:=⟨_,rfl⟩;have x2:=jL (c:=c) (a:=a+2) (n:=2) (by omega);obtain⟨v2,hv2⟩:∃v:Int,1+jQ c (a+2) 2=v:=⟨_,rfl⟩;have x3:=jL (c:=c) (a:=a+2) (n:=6) (by omega);have x4:=jL (c:=c) (a:=a+3) (n:=6) (by omega);obtain⟨k1,hk1⟩:∃k:Nat,jQ c (a+2) 6=(k:Int):=⟨(jQ c (a+2) 6).toNat,by omega⟩;obtain⟨k2,hk2⟩:∃k:Nat,jQ c (a+3) 6=(k:Int):=⟨(jQ c (a+3) 6).toNat,by omega⟩;have hn1:=qF c (a+2) 6 hc (by omega) (by omega);have hn2:=qF c (a+3) 6 hc (by omega) (by omega);rw[hk1] at hn1;rw[hk2] at hn2;refine wa_ (zB (w_ (aN (h:=nE (h:=zA (wa_ (zB (wM (h:=w_ (cP (hc:=qF c a 2 hc (by omega) (by omega)) (h:=w_ ?_)))))))))));refine b_ (hv:=zCt hv1 (by omega) (by omega)) (h:=?_);refine w_ (bd (h:=w_ (bs (h:=W3 (h:=nE (h:=zA (wa_ (wa_ (zB (wM (h:=w_ (cP (hc:=yO c (a+1) 2 hc (by omega) (by omega)) (h:=nE (h:=zA ?_))))))))))))));refine c_ (h1:=?_) (h2:=?_)
 rotate_right 1
 focus
  intro c1;refine zC ?_
 rotate_right 1
 focus
  intro c1;refine zB (wM (h:=wM (h:=w_ (cP (hc:=qF c (a+2) 2 hc (by omega) (by omega)) (h:=w_ ?_)))));refine b_ (hv:=zCt hv2 (by omega) (by omega)) (h:=?_);refine w_ (bd (h:=w_ (bs (h:=w_ (ap (h:=W3 (h:=nE (h:=?_))))))))
 all_goals first
 | (
  refine zA ?_;refine wa_ (wa_ (zB (wM (h:=?_))))
  first|refine w_ (cP (hc:=hn1) (h:=?_))|refine w_ (cP (hc:=hn2) (h:=?_))
  refine W3 (h:=nE (h:=zA (zG ?_)));refine zZf (by first|exact zTq c hc (k1,a+3,[_]) ⟨by simp only;omega,by simp only;omega,qIh (v:=v1) (by omega)⟩ _ (zHi (by rfl) (by rfl) (by rfl) (by rfl) (by rfl) (by simp) (by first|decide|(simp;done)|(simp;omega)))|exact zTq c hc (k2,a+4,[_,_]) ⟨by simp only;omega,by simp only;omega,qJu (v:=v1) (u:=v2) (by omega) (by omega)⟩ _ (zHi (by rfl) (by rfl) (by rfl) (by rfl) (by rfl) (by simp) (by first|decide|(simp;done)|(simp;omega)))) ?_;rintro _ _ ⟨pl2,a2,⟨⟩,⟨g1,g2,g3,g4⟩,h2⟩;refine zS (zA (wa_ (zB (wM (h:=wM (h:=w_ (le (h:=w_ (b_ (h:=w_ (bd (h:=w_ (bs (h:=w_ (ap (h:=W3 (h:=?_)))))))))))))))));refine nE (h:=zA (wa_ (zB (wM (h:=W3 (h:=nE (h:=zA (zF ?_)))))))))
 all_goals (refine zXy (Q:=fun r=>∃(pl:List Nd) (a':Nat),r=(.lst true 7 (nds true 1 pl),[qZ c a'])/\1<=pl.length/\pl.length<=8/\(∀d∈pl,d.cells.length<=3)/\a'<=a+300) (hr:=(zL rfl zM)) (h:=?_);(focus (simp at h2;refine⟨pl2++[⟨12,IntKind.i64.wrap ((pl2.length:Int) - 1),0,0,0,0,[]⟩],a2,?_,by simp,by simp;omega,?_,by omega⟩;(focus (simp;rw[List.take_of_length_le (by simp)];simp[nds,Nd.v]));(intro d hd;rcases List.mem_append.1 hd with hd|hd;(focus (exact g3 d hd));(simp at hd;subst hd;simp)))))
theorem zZ2 {pl:List Nd} {i:Nat} {q:Nd} (g2:pl.length<=8) (g3:∀d∈pl,d.cells.length<=3) (hq:q.cells.length<=4):planP (pl.set i q):=⟨by simp;omega,fun x hx=>by
 rcases List.mem_or_eq_of_mem_set hx with hx|rfl
 ·have:=g3 x hx;omega
 ·exact hq⟩
theorem pick9 (c:List Int) (a:Nat):∃m:Nat,at0 [0,9] (jQ c a ([0,9]:List Int).length)=(m:Int)/\m<=9:=by
 have:=jL (c:=c) (a:=a) (n:=(([0,9]:List Int).length:Nat)) (by simp)
 simp at this;rcases(by omega:jQ c a 2=0\/jQ c a 2=1) with h|h
 ·exact⟨0,by simp[h,at0],by omega⟩
 ·exact⟨9,by simp[h,at0],by omega⟩
theorem zXx (c:List Int) (a:Nat) (hc:okS c) (ha:a<400000000):∃r,vW oc cf 134 [.iop (qZ c a)]=some r/\(∃(pl:List Nd) (a':Nat),r=(.lst true 7 (nds true 1 pl),[qZ c a'])/\planP pl/\a'<=a+400):=by
 refine qBd (Q:=fun r=>∃(pl:List Nd) (a':Nat),r=(.lst true 7 (nds true 1 pl),[qZ c a'])/\planP pl/\a'<=a+400) cd134 rfl rfl rfl (by simp;rfl) (by simp;rfl) ?_;obtain⟨_,hd,pl,a1,rfl,g1,g2,g3,ha1⟩:=qC2 c a hc (by omega);have x1:=jL (c:=c) (a:=a1) (n:=pl.length) (by omega);obtain⟨i,hi⟩:∃i:Nat,jQ c a1 pl.length=(i:Int):=⟨(jQ c a1 pl.length).toNat,by omega⟩;have hn1:=qF c a1 pl.length hc (by omega) (by omega);rw[hi] at hn1 x1;have hil:i<pl.length:=by omega
 have hn2:=qF c (a1+1) 24 hc (by omega) (by omega);have hn3:=qF c (a1+2) 13 hc (by omega) (by omega);have hx0:=zBb (t:=true) (s:=1) (show pl[i]? = some pl[i] by simp[hil]);obtain⟨d,hdd⟩:∃d,pl[i]=d:=⟨_,rfl⟩;have hdm:d.cells.length<=3:=by rw[<-hdd];exact g3 _ (List.getElem_mem _)
 rw[hdd] at hx0;obtain⟨d1,d2,d3,d4,d5,d6,d7⟩:=d;simp only at hdm;have hset:∀q:Nd,q.cells.length<=4->planP (pl.set i q):=fun q hq=>zZ2 g2 g3 hq
 have hp4:oc.call.noI.c 42 [.iop (qZ c (a1+2)),.lst true 1 (ints [0,-1,4])]=some (.int .i64 (at0 [0,-1,4] (jQ c (a1+2) (3:Nat))),[qZ c (a1+2+1)]):=kQ c (a1+2) [0,-1,4] hc (by omega) (by simp) (by simp);have hp9:=kQ c (a1+2) [0,9] hc (by omega) (by simp) (by simp);obtain⟨m9,h9,h9'⟩:=pick9 c (a1+2);rw[h9] at hp9;refine wa_ (zB (w_ (aN (h:=nE (h:=zA (wa_ (zB (wM (h:=w_ (cP (hc:=hd) (h:=W3 (h:=nE (h:=zA ?_)))))))))))));refine wa_ (zB (wM (h:=wM (h:=w_ (le (h:=w_ (cP (hc:=hn1) (h:=W3 (h:=nE (h:=zA (wa_ (wa_ (zB ?_)))))))))))));refine wM (h:=w_ (cP (hc:=hn2) (h:=nE (h:=zA (zG (wa_ (zB (w_ (bE (h:=W3 (h:=nE (h:=zA ?_))))))))))));refine c_ (h1:=?_) (h2:=?_)
 rotate_right 1
 focus
  intro c1;first|exact dn c1|(
   have d1:=c1;try simp at d1
   refine wa_ (zB (w_ (bE (h:=W3 (h:=nE (h:=zA ?_))))));refine c_ (h1:=?_) (h2:=?_)
   rotate_right 1
   focus
    intro c2;first|exact dn c2|(
     have d2:=c2;try simp at d2
     refine wa_ (zB (w_ (bE (h:=W3 (h:=nE (h:=zA ?_))))));refine c_ (h1:=?_) (h2:=?_)
     rotate_right 1
     focus
      intro c3;first|exact dn c3|(
       have d3:=c3;try simp at d3
       refine wa_ (zB (w_ (bE (h:=W3 (h:=nE (h:=zA ?_))))));refine c_ (h1:=?_) (h2:=?_)
       rotate_right 1
       focus
        intro c4;first|exact dn c4|(
         have d4:=c4;try simp at d4
         refine wa_ (zB (w_ (bE (h:=W3 (h:=nE (h:=zA ?_))))));refine c_ (h1:=?_) (h2:=?_)
         rotate_right 1
         focus
          intro c5;first|exact dn c5|(
           have d5:=c5;try simp at d5
           refine wa_ (zB (w_ (bE (h:=W3 (h:=nE (h:=zA ?_))))));refine c_ (h1:=?_) (h2:=?_)
           rotate_right 1
           focus
            intro c6;first|exact dn c6|(
             have d6:=c6;try simp at d6
             refine wa_ (zB (w_ (bE (h:=W3 (h:=nE (h:=zA ?_))))));refine c_ (h1:=?_) (h2:=?_)
             rotate_right 1
             focus
              intro c7;first|exact dn c7|(
               have d7:=c7;try simp at d7
               refine wa_ (zB (w_ (bE (h:=W3 (h:=nE (h:=zA ?_))))));refine c_ (h1:=?_) (h2:=?_)
               rotate_right 1
               focus
                intro c8;first|exact dn c8|(
                 have d8:=c8;try simp at d8
                 refine wa_ (zB (w_ (bE (h:=W3 (h:=nE (h:=zA ?_))))));refine c_ (h1:=?_) (h2:=?_)
                 rotate_right 1
                 focus
                  intro c9;first|exact dn c9|(
                   have d9:=c9;try simp at d9
                   refine zC ?_)
                 rotate_right 1
                 focus
                  intro c9;first|exact dn c9|(
                   have d9:=c9;try simp at d9
                   refine zB (wM (h:=w_ (bs (h:=w_ (cPT (hc:=hp9) (h:=w_ (mk (h:=W3 (h:=nE (h:=?_))))))))))))
               rotate_right 1
               focus
                intro c8;first|exact dn c8|(
                 have d8:=c8;try simp at d8
                 refine zB (wM (h:=wM (h:=w_ (le (h:=w_ (b_ (h:=w_ (bd (h:=w_ (bs (h:=w_ (ap (h:=W3 (h:=nE (h:=?_)))))))))))))))))
             rotate_right 1
             focus
              intro c7;first|exact dn c7|(
               have d7:=c7;try simp at d7
               refine zB (wM (h:=wM (h:=wM (h:=w_ (bs (h:=w_ (cPT (hc:=kQ c (a1+2) [1000000000,1000000001,-1] hc (by omega) (by simp) (by simp)) (h:=w_ (x_ (h:=w_ (f_ (h:=w0 (s_ (h:=nE (h:=?_)))))))))))))))))
           rotate_right 1
           focus
            intro c6;first|exact dn c6|(
             have d6:=c6;try simp at d6
             refine zB (wM (h:=wM (h:=wM (h:=w_ (bs (h:=w_ (cPT (hc:=kQ c (a1+2) [1,3] hc (by omega) (by simp) (by simp)) (h:=w_ (x_ (h:=w_ (f_ (h:=w0 (s_ (h:=nE (h:=?_)))))))))))))))))
         rotate_right 1
         focus
          intro c5;first|exact dn c5|(
           have d5:=c5;try simp at d5
           refine qE (yM (h:=yM (h:=yM (h:=yM (h:=y_ (x_ (h:=ax_ (h:=y_ (f_ (h:=ax_ (h:=y_ (l_ (h:=ax_ (h:=yM (h:=y_ (bs (h:=ax_ (h:=y_ (cPT (hc:=hp4) (h:=ax_ (h:=y_ (bs (h:=ax_ (h:=?_))))))))))))))))))))))));refine y_ ?_;refine apP (h:=?_);refine ax_ (h:=y_ (x_ (h:=ax_ (h:=y_ (f_ (h:=ax_ (h:=y0 (s_ (h:=ax_ (h:=qO (ed (h:=?_))))))))))))))
       rotate_right 1
       focus
        intro c4;first|exact dn c4|(
         have d4:=c4;try simp at d4
         refine zB (wM (h:=wM (h:=wM (h:=w_ (bs (h:=w_ (cPT (hc:=kQ c (a1+2) [-1,0,4,3,1] hc (by omega) (by simp) (by simp)) (h:=w_ (x_ (h:=w_ (f_ (h:=w0 (s_ (h:=nE (h:=?_)))))))))))))))))
     rotate_right 1
     focus
      intro c3;first|exact dn c3|(
       have d3:=c3;try simp at d3
       refine zB (wM (h:=wM (h:=wM (h:=wM (h:=w_ (bs (h:=w_ (cPT (hc:=kQ c (a1+2) [-1,i,1] hc (by omega) (by simp) (by simp)) (h:=w_ (x_ (h:=w_ (f_ (h:=w0 (s_ (h:=nE (h:=?_))))))))))))))))))
   rotate_right 1
   focus
    intro c2;first|exact dn c2|(
     have d2:=c2;try simp at d2
     refine zB (wM (h:=wM (h:=wM (h:=wM (h:=w_ (bs (h:=w_ (cPT (hc:=kQ c (a1+2) [-1,i,0,4611686018427387904] hc (by omega) (by simp) (by simp)) (h:=w_ (x_ (h:=w_ (f_ (h:=w0 (s_ (h:=nE (h:=?_))))))))))))))))))
 rotate_right 1
 focus
  intro c1;first|exact dn c1|(
   have d1:=c1;try simp at d1
   refine zB (wM (h:=wM (h:=wM (h:=wM (h:=w_ (cP (hc:=hn3) (h:=w_ (bs (h:=w_ (cPT (hc:=kQ c (a1+3) [0,13,jQ c (a1+2) 13] hc (by omega) (by simp) (by simp)) (h:=w_ (x_ (h:=w_ (f_ (h:=w0 (s_ (h:=nE (h:=?_)))))))))))))))))))
 all_goals refine zI ?_
 all_goals first
 | (
  refine zA ?_;refine wa_ (zB (wM (h:=W3 (h:=nE (h:=zA (zF ?_)))))))
 all_goals (refine zXy (Q:=fun r=>∃(pl:List Nd) (a':Nat),r=(.lst true 7 (nds true 1 pl),[qZ c a'])/\planP pl/\a'<=a+400) (hr:=(zL rfl zM)) (h:=?_);(focus (first|exact⟨pl,_,rfl,⟨by omega,fun d hd=>by have:=g3 d hd;omega⟩,by omega⟩|(rw[List.take_of_length_le (by simp)];exact⟨_,_,rfl,hset _ (by first|exact Nat.le_succ_of_le hdm|(simp;omega)),by omega⟩)|exact⟨pl++[⟨5,IntKind.i64.wrap ((pl.length:Int) - 1),0,0,0,0,[]⟩],a1+1+1,by(rw[List.take_of_length_le (by simp)];simp[nds,Nd.v,zFi];done),⟨by simp;omega,fun d hd=>by(rcases List.mem_append.1 hd with hd|hd;(focus (have:=g3 d hd;omega));(simp at hd;subst hd;simp))⟩,by omega⟩|exact⟨List.replicate m9 ⟨0,0,0,0,0,0,[]⟩,a1+2+1,by(simp[nds,Nd.v,zFi];done),⟨by simp;omega,fun d hd=>by(have:=(List.mem_replicate.1 hd).2;subst this;simp)⟩,by omega⟩)))
theorem qCl (c:List Int) (a:Nat) (hc:okS c) (ha:a<400000000):∃(pl:List Nd) (a':Nat),oc.call 134 [.iop (qZ c a)]=some (.lst false 0 (nds false 0 pl),[qZ c a'])/\planP pl/\a'<=a+400:=by
 obtain⟨_,h,pl,a',rfl,hp,h2⟩:=zXx c a hc ha;refine⟨pl,a',?_,hp,h2⟩
 have:=qJm (by rfl) (by rfl) (by rfl) h
 rw[this];simp[V.full]
end Go.Proofs.YtbcgenkegnmkhaaGreat.Ev
namespace Go.Proofs.YtbcgenkegnmkhaaGreat.Ev
open Go
set_option maxRecDepth 100000
set_option linter.unusedSimpArgs false
set_option linter.unusedVariables false
set_option maxHeartbeats 2000000
theorem zVj {x a b:Int}:IntKind.i64.wrap (IntKind.i64.wrap (x+a)+b)=IntKind.i64.wrap (IntKind.i64.wrap (x+b)+a):=by
 unfold IntKind.wrap;simp[IntKind.bits,IntKind.signed];omega
theorem qBo {a b:Int}:IntKind.i64.wrap (a+b)=IntKind.i64.wrap (b+a):=by rw[Int.add_comm]
end Go.Proofs.YtbcgenkegnmkhaaGreat.Ev
namespace Go.Proofs.YtbcgenkegnmkhaaGreat.Ev
set_option linter.unusedSectionVars false
section
variable {α : Type} [Inhabited α]
structure Sums (lt:α->α->Bool) (add:α->α->α):Prop where
 o:Ordr lt
 ltl:∀{x c d},lt (add x c) d=lt x d
 ltr:∀{x c d},lt d (add x c)=lt d x
 cm:∀{a b},lt a b=false->lt b a=false->add a b=add b a
 ac:∀{x a b},add (add x a) b=add (add x b) a
variable {lt : α->α->Bool} {add : α->α->α}
def zAo (lt:α->α->Bool) (add:α->α->α):List α->α->List α
 | [],c=>[c]
 | x::r,c=>if lt x c=true then x::zAo lt add r c else if lt c x=true then c::x::r else add x c::r
theorem jK (x:α) (r:List α) (c:α):zAo lt add (x::r) c=if lt x c=true then x::zAo lt add r c else if lt c x=true then c::x::r else add x c::r:=rfl
theorem Ordr.lle (O:Ordr lt) {a b c:α} (h1:lt a b=true) (h2:lt c b=false):lt a c=true:=by
 cases h:lt a c
 ·exact absurd (O.ntr h2 h) (by simp[h1])
 ·rfl
theorem Ordr.lel (O:Ordr lt) {a b c:α} (h1:lt b a=false) (h2:lt b c=true):lt a c=true:=by
 cases h:lt a c
 ·exact absurd (O.ntr h h1) (by simp[h2])
 ·rfl
theorem Ordr.tr (O:Ordr lt) {a b c:α} (h1:lt a b=true) (h2:lt b c=true):lt a c=true:=O.lle h1 (O.asym h2)
theorem zM9 (S:Sums lt add):∀(l:List α) (a b:α),zAo lt add (zAo lt add l a) b=zAo lt add (zAo lt add l b) a
 | [],a,b=>by
  show zAo lt add [a] b=zAo lt add [b] a;rw[jK,jK];cases h1:lt a b<;>cases h2:lt b a
  ·simp[S.cm h1 h2]
  ·simp[zAo]
  ·simp[zAo]
  ·rw[S.o.asym h1] at h2;cases h2
 | x::r,a,b=>by
  have ih:=zM9 S r a b;rw[jK,jK];cases a1:lt x a<;>cases a2:lt a x<;>cases b1:lt x b<;>cases b2:lt b x
  all_goals first
   | (rw[S.o.asym a1] at a2;cases a2;done)
   | (rw[S.o.asym b1] at b2;cases b2;done)
   | (simp only[Bool.false_eq_true,if_false,if_true,jK,S.ltl,S.ltr,a1,a2,b1,b2,ih,S.ac];done)
   | skip
  all_goals (cases e:lt a b<;>cases e':lt b a)
  all_goals first
   | (simp only[Bool.false_eq_true,if_false,if_true,jK,S.ltl,S.ltr,a1,a2,b1,b2,e,e',ih,S.ac];done)
   | (exfalso;have n1:=@Ordr.ntr _ _ S.o a x b;have n2:=@Ordr.ntr _ _ S.o b x a;have n3:=@Ordr.ntr _ _ S.o x a b;have n4:=@Ordr.ntr _ _ S.o x b a;have n5:=@Ordr.ntr _ _ S.o a b x;have n6:=@Ordr.ntr _ _ S.o b a x;have n7:=@Ordr.asym _ _ S.o a b;simp only[a1,a2,b1,b2,e,e'] at n1 n2 n3 n4 n5 n6 n7;simp_all;done)
   | (simp only[Bool.false_eq_true,if_false,if_true,jK,S.ltl,S.ltr,a1,a2,b1,b2,e,e',S.cm e e'];done)
theorem zMh (S:Sums lt add) {l1 l2:List α} (p:l1.Perm l2):∀acc:List α,l1.foldl (zAo lt add) acc=l2.foldl (zAo lt add) acc:=by
 induction p with
 | nil=>intro acc;rfl
 | cons x _ ih=>intro acc;exact ih _
 | swap x y l=>intro acc;simp only[List.foldl_cons];rw[zM9 S]
 | trans _ _ ih1 ih2=>intro acc;rw[ih1,ih2]
theorem zDp {x c:α} (hx:lt c x=false):∀{init:List α},(∀y∈init,lt y c=true)->zAo lt add (init++[x]) c=if lt x c=true then init++[x,c] else init++[add x c]
 | [],_=>by
  show zAo lt add [x] c=_;rw[jK]
  by_cases h:lt x c=true
  ·rw[if_pos h,if_pos h];rfl
  ·rw[if_neg h,if_neg h,if_neg (by simp[hx])];rfl
 | y::r,h=>by
  rw[List.cons_append,jK,if_pos (h y (List.mem_cons_self ..)),zDp hx (fun z hz=>h z (List.mem_cons_of_mem _ hz))]
  by_cases h:lt x c=true
  ·rw[if_pos h,if_pos h];rfl
  ·rw[if_neg h,if_neg h];rfl
theorem zHd (U:Sums lt add) {S:List α} (hS:Srt lt 0 S.length S):∀i,i<S.length->∃init x,(S.take (i+1)).foldl (zAo lt add) []=init++[x]/\(∀d,lt x d=lt (nth S i) d/\lt d x=lt d (nth S i))/\∀y∈init,lt y (nth S i)=true
 | 0,h=>by
  refine⟨[],nth S 0,?_,fun _=>⟨rfl,rfl⟩,fun y hy=>by cases hy⟩;rw[List.take_add_one,zEr h];rfl
 | i+1,h=>by
  obtain⟨init,x,e,e1,hy⟩:=zHd U hS i (by omega);have hle:=hS i (i+1) (by omega) (by omega) h;have hxc:lt (nth S (i+1)) x=false:=by rw[(e1 _).2];exact hle
  have hall:∀y∈init,lt y (nth S (i+1))=true:=fun y h1=>U.o.lle (hy y h1) hle
  rw[List.take_add_one,zEr h,List.foldl_append,e];show ∃init' x',zAo lt add (init++[x]) (nth S (i+1))=init'++[x']/\_;rw[zDp hxc hall]
  by_cases hc:lt x (nth S (i+1))=true
  ·rw[if_pos hc]
   refine⟨init++[x],nth S (i+1),by simp,fun _=>⟨rfl,rfl⟩,fun y h1=>?_⟩;rcases List.mem_append.1 h1 with h1|h1
   ·exact hall y h1
   ·rw[List.mem_singleton.1 h1];exact hc
  ·rw[if_neg hc]
   simp only[Bool.not_eq_true] at hc;refine⟨init,add x (nth S (i+1)),rfl,fun d=>⟨?_,?_⟩,hall⟩
   ·rw[U.ltl]
    cases h1:lt x d<;>cases h2:lt (nth S (i+1)) d<;>first|rfl|skip
    ·exact absurd (U.o.lel hxc h2) (by simp[h1])
    ·exact absurd (U.o.lel hc h1) (by simp[h2])
   ·rw[U.ltr]
    cases h1:lt d x<;>cases h2:lt d (nth S (i+1))<;>first|rfl|skip
    ·exact absurd (U.o.lle h2 hc) (by simp[h1])
    ·exact absurd (U.o.lle h1 hxc) (by simp[h2])
theorem zYx (U:Sums lt add) {S:List α} (hS:Srt lt 0 S.length S) {i:Nat} (h:i<S.length) (hc:i=0\/lt (nth S (i - 1)) (nth S i)=true) :
  (S.take (i+1)).foldl (zAo lt add) []=(S.take i).foldl (zAo lt add) []++[nth S i]:=by
 have hst:S.take (i+1)=S.take i++[nth S i]:=by rw[List.take_add_one,zEr h];rfl
 rw[hst,List.foldl_append];rcases Nat.eq_zero_or_pos i with rfl|hi
 ·rfl
 ·obtain⟨init,x,e,e1,hy⟩:=zHd U hS (i - 1) (by omega)
  rw[show i - 1+1=i by omega] at e;have hlt:lt (nth S (i - 1)) (nth S i)=true:=by rcases hc with h|h<;>first|omega|exact h
  rw[e];show zAo lt add (init++[x]) (nth S i)=_;rw[zDp (by rw[(e1 _).2];exact U.o.asym hlt) (fun y h1=>U.o.tr (hy y h1) hlt),if_pos (by rw[(e1 _).1];exact hlt)];simp
theorem qA7 (U:Sums lt add) {S:List α} (hS:Srt lt 0 S.length S) {i:Nat} (h:i<S.length) (hi:0<i) (hc:lt (nth S (i - 1)) (nth S i)=false) :
  ∃init x,(S.take i).foldl (zAo lt add) []=init++[x]/\(S.take (i+1)).foldl (zAo lt add) []=init++[add x (nth S i)]/\(∀d,lt x d=lt (nth S (i - 1)) d/\lt d x=lt d (nth S (i - 1))):=by
 have hst:S.take (i+1)=S.take i++[nth S i]:=by rw[List.take_add_one,zEr h];rfl
 obtain⟨init,x,e,e1,hy⟩:=zHd U hS (i - 1) (by omega);rw[show i - 1+1=i by omega] at e;have hle:=hS (i - 1) i (by omega) (by omega) h;refine⟨init,x,e,?_,e1⟩;rw[hst,List.foldl_append,e];show zAo lt add (init++[x]) (nth S i)=_;rw[zDp (by rw[(e1 _).2];exact hle) (fun y h1=>U.o.lle (hy y h1) hle),if_neg (by rw[(e1 _).1,hc];simp)]
theorem zKf:∀(l:List α) (c:α),(zAo lt add l c).length<=l.length+1
 | [],_=>by simp[zAo]
 | x::r,c=>by
  have ih:=zKf r c;rw[jK];split
  ·simpa using ih
  ·split<;>simp
theorem zG9 {S:List α}:∀{acc:List α},(S.foldl (zAo lt add) acc).length<=acc.length+S.length:=by
 induction S with
 | nil=>intro acc;simp
 | cons c l ih =>
  intro acc;have h1:=ih (acc:=zAo lt add acc c);have h2:=zKf (lt:=lt) (add:=add) acc c;simp only[List.foldl_cons,List.length_cons] at *;omega
theorem zGu:∀(l acc:List α),(acc++l).Pairwise (fun x y=>lt x y=true)->l.foldl (zAo lt add) acc=acc++l
 | [],acc,_=>by simp
 | c::l,acc,h=>by
  have hacc:∀y∈acc,lt y c=true:=fun y hy=>(List.pairwise_append.1 h).2.2 y hy c (List.mem_cons_self ..)
  have hput:zAo lt add acc c=acc++[c]:=by
   clear h
   induction acc with
   | nil=>rfl
   | cons y r ih=>rw[jK,if_pos (hacc y (List.mem_cons_self ..)),ih (fun z hz=>hacc z (List.mem_cons_of_mem _ hz))];rfl
  rw[List.foldl_cons,hput,zGu l (acc++[c]) (by simpa using h)];simp
theorem zQq {P:α->Prop} (ha:∀x c,P x->P c->P (add x c)):∀{l:List α} {c:α},(∀x∈l,P x)->P c->∀x∈zAo lt add l c,P x
 | [],c,_,hc,x,hx=>by rw[List.mem_singleton.1 hx];exact hc
 | y::r,c,hl,hc,x,hx=>by
  rw[jK] at hx;split at hx
  ·rcases List.mem_cons.1 hx with rfl|hx
   ·exact hl _ (List.mem_cons_self ..)
   ·exact zQq ha (fun z hz=>hl z (List.mem_cons_of_mem _ hz)) hc x hx
  ·split at hx
   ·rcases List.mem_cons.1 hx with rfl|hx
    ·exact hc
    ·exact hl x hx
   ·rcases List.mem_cons.1 hx with rfl|hx
    ·exact ha _ _ (hl _ (List.mem_cons_self ..)) hc
    ·exact hl x (List.mem_cons_of_mem _ hx)
theorem zMp {P:α->Prop} (ha:∀x c,P x->P c->P (add x c)):∀{S acc:List α},(∀x∈acc,P x)->(∀x∈S,P x)->∀x∈S.foldl (zAo lt add) acc,P x
 | [],_,h1,_,x,hx=>h1 x hx
 | c::S,acc,h1,h2,x,hx=>zMp ha (S:=S) (acc:=zAo lt add acc c) (zQq ha h1 (h2 c (List.mem_cons_self ..))) (fun z hz=>h2 z (List.mem_cons_of_mem _ hz)) x hx
def zFf (lt:α->α->Bool):List α->α->Nat
 | [],_=>0
 | x::r,c=>if lt x c=true then zFf lt r c+1 else 0
theorem zVi:∀(l:List α) (c:α),zFf lt l c<=l.length
 | [],_=>by simp[zFf]
 | x::r,c=>by
  have:=zVi r c
  unfold zFf;split<;>simp<;>omega
theorem zQx {x:α} {r:List α} {c:α} (h:lt x c=true):zFf lt (x::r) c=zFf lt r c+1:=by rw[zFf,if_pos h]
theorem zR7 {x:α} {r:List α} {c:α} (h:lt x c=false):zFf lt (x::r) c=0:=by rw[zFf,if_neg (by simp[h])]
theorem zV6:∀(l:List α) (c:α),zFf lt l c<l.length->lt (nth l (zFf lt l c)) c=false
 | [],c,h=>by simp[zFf] at h
 | x::r,c,h=>by
  by_cases hx:lt x c=true
  ·rw[zQx hx] at h ⊢
   have:=zV6 r c (by simpa using h)
   simpa [nth] using this
  ·rw[zR7 (by simpa using hx)]
   simpa [nth] using hx
theorem zWs:∀(l:List α) (c:α),zFf lt l c<l.length->lt c (nth l (zFf lt l c))=false->zAo lt add l c=l.set (zFf lt l c) (add (nth l (zFf lt l c)) c)
 | [],c,h,_=>by simp[zFf] at h
 | x::r,c,h,h2=>by
  rw[jK]
  by_cases hx:lt x c=true
  ·rw[zQx hx] at h h2 ⊢
   rw[if_pos hx,zWs r c (by simpa using h) (by simpa [nth] using h2)];simp[nth]
  ·rw[zR7 (by simpa using hx)] at h2 ⊢
   have h3:lt c x=false:=by simpa [nth] using h2
   rw[if_neg hx,if_neg (by simp[h3])];simp[nth]
theorem zVr:∀(l:List α) (c:α),(zFf lt l c<l.length->lt c (nth l (zFf lt l c))=true)->zAo lt add l c=l.take (zFf lt l c)++[c]++l.drop (zFf lt l c)
 | [],c,_=>rfl
 | x::r,c,h2=>by
  rw[jK]
  by_cases hx:lt x c=true
  ·rw[zQx hx] at h2 ⊢
   rw[if_pos hx,zVr r c (fun h=>by simpa [nth] using h2 (by simpa using h))];simp
  ·rw[zR7 (by simpa using hx)] at h2 ⊢
   have h3:lt c x=true:=by simpa [nth] using h2 (by simp)
   rw[if_neg hx,if_pos h3];rfl
end
end Go.Proofs.YtbcgenkegnmkhaaGreat.Ev
namespace Go.Proofs.YtbcgenkegnmkhaaGreat.Ev
open Go
set_option maxRecDepth 100000
set_option linter.unusedSimpArgs false
set_option linter.unusedVariables false
set_option maxHeartbeats 2000000
structure Er where
 row:List Int
 w:Int
 ok:row.length<2000000
def Er.e (x:Er):Et:=⟨x.row,x.w⟩
def ers (l:List Er):List V:=ets false (l.map Er.e)
instance:Inhabited Er:=⟨⟨[],0,by decide⟩⟩
@[simp] theorem ers_len (l:List Er):(ers l).length=l.length:=by simp[ers]
theorem kP {r:List Er} {j:Nat} (h:j<r.length):(ers r)[j]? = some ((nth r j).e.v false):=by
 simp[ers,ets,zEr h]
@[simp] theorem zFr {r:List Er} {j:Nat} {x:Er}:(ers r).set j (x.e.v false)=ers (r.set j x):=by simp[ers,List.map_set]
theorem zWc:∀{l m:List Et},l.length=m.length->V.alikeL (ets false l) (ets false m)=true
 | [],[],_=>rfl
 | [],_::_,h=>by cases h
 | _::_,[],h=>by cases h
 | x::l,y::m,h=>by
  have ih:=zWc (l:=l) (m:=m) (by simpa using h);simp only[zY8,V.alikeL];rw[ih];rfl
theorem yR {l m:List Er} (h:l.length=m.length):V.alikeL (ers l) (ers m)=true:=zWc (by simpa using h)
@[simp] theorem Et.ne_undE (t:Bool) (x:Et):(x.v t=V.und)=False:=by simp[Et.v]
theorem zJn:∀{z y x:List Int},0<=vT z y->0<=vT y x->0<=vT z x
 | [],[],_,_,h=>h
 | [],_::_,_,h,_=>by simp[vT] at h
 | _::_,_,[],_,_=>by simp[vT]
 | _::_,[],_::_,_,h=>by simp[vT] at h
 | a::z,b::y,c::x,h1,h2=>by
  have ih:=@zJn z y x;simp only[vT] at h1 h2 ⊢
  grind
def byE (a b:Er):Int:=vT a.row b.row
theorem zWr (a b:Er):oc.call 123 [a.e.v false,b.e.v false]=some (.int .i64 (byE a b),[]):=by
 refine qA rfl cd123 rfl rfl rfl (by simp;rfl) (by simp;rfl) ?_;have ha:=a.ok;have hb:=b.ok;have hin:=zWd a.row b.row;refine wa_ (zB (w_ (bx (h:=w_ (bx (h:=W3 (h:=nE (h:=zA (wa_ (zB (w_ (f_ (h:=w_ (l_ (h:=w_ (f_ (h:=?_)))))))))))))))));refine w_ (l_ (h:=w_ (ca (hc:=zVm a.row b.row ha hb) (h:=W3 (h:=nE (h:=zA (zF ?_)))))))
 all_goals (refine qX (hr:=(zL rfl zM)) (h:=?_);(focus (first|rfl|(simp[byE];done)|(simp[byE];exact qL (by omega) (by omega)))))
def ltE (a b:Er):Bool:=decide (byE a b<0)
theorem zZo {a b:Er}:ltE a b=true↔vT a.row b.row<0:=by unfold ltE;rw[decide_eq_true_eq];exact Iff.rfl
theorem zN6 {a b:Er}:ltE a b=false↔0<=vT a.row b.row:=by unfold ltE;rw[decide_eq_false_iff_not];exact Int.not_lt
theorem zO4:Ordr ltE:=by
 refine⟨fun {x y} h=>?_,fun {x y z} h1 h2=>?_⟩
 ·have:=kX x.row y.row
  rw[zZo] at h;rw[zN6];omega
 ·rw[zN6] at *
  exact zJn h2 h1
def zKs (x c:Er):Er:=⟨x.row,IntKind.i64.wrap (x.w+c.w),x.ok⟩
theorem qKa {a b:Er} (h1:ltE a b=false) (h2:ltE b a=false):a.row=b.row:=by
 have:=kX a.row b.row
 rw[zN6] at *;exact cmpL_eq.1 (by omega)
theorem qCu:Sums ltE zKs:=by
 refine⟨zO4,fun {x c d}=>rfl,fun {x c d}=>rfl,fun {a b} h1 h2=>?_,fun {x a b}=>?_⟩
 ·have:=qKa h1 h2
  cases a;cases b;simp only[zKs,Er.mk.injEq] at *;exact⟨this,qBo⟩
 ·simp only[zKs,Er.mk.injEq,true_and]
  exact zVj
theorem qBw {S:List Er} (hS:Srt ltE 0 S.length S) {i:Nat} (hi:i<S.length) (h:byE (nth S (i - 1)) (nth S i)≠0):ltE (nth S (i - 1)) (nth S i)=true:=by
 have h1:=hS (i - 1) i (by omega) (by omega) hi;rw[zN6] at h1;rw[zZo]
 have:=kX (nth S (i - 1)).row (nth S i).row
 unfold byE at h;omega
theorem zTe:∀{l:List Et},(∀x∈l,x.row.length<2000000)->∃r:List Er,r.map Er.e=l
 | [],_=>⟨[],rfl⟩
 | x::l,h=>by
  obtain⟨r,hr⟩:=zTe (l:=l) (fun y hy=>h y (List.mem_cons_of_mem _ hy));exact⟨⟨x.row,x.w,h x (List.mem_cons_self ..)⟩::r,by simp[hr,Er.e]⟩
theorem zYf (a b i N:Nat) (hN:N<2000000) (hb:b<=N) (hai:a<i) (hib:i<b):∀x:Nat×(List Er),(a<=x.1/\x.1<=i/\x.2.length=N)->∀s,zH 4 (some [0,1,2,3,8,9]) s=⟨[(0,.ref 0 0 N),(1,.int .i64 a),(2,.int .i64 b),(3,.clo 123 []),(8,.int .i64 i),(9,.int .i64 x.1)],[(0,⟨false,true,2,ers x.2,0⟩)],4⟩ ->
 oc.loop 226 4 s=some (.exit 2,⟨[(0,.ref 0 0 N),(1,.int .i64 a),(2,.int .i64 b),(3,.clo 123 []),(8,.int .i64 i)],[(0,⟨false,true,2,ers (bub ltE a x.1 x.2),0⟩)],4⟩):=by
 refine zV (σ:=Nat×(List Er)) (fun x=>x.1) _ (fun x=>⟨[(0,.ref 0 0 N),(1,.int .i64 a),(2,.int .i64 b),(3,.clo 123 []),(8,.int .i64 i),(9,.int .i64 x.1)],[(0,⟨false,true,2,ers x.2,0⟩)],4⟩) _ ?_;rintro⟨j,r⟩ hi ih s hs;simp only at hi;refine qD qFn rfl rfl hs ?_;obtain⟨hi1,hi2,hi3⟩:=hi;have g1:(ers r)[j]? = some ((nth r j).e.v false):=kP (by omega);have g2:(ers r)[j - 1]? = some ((nth r (j - 1)).e.v false):=kP (by omega);refine wa_ (wa_ (qE (yM (h:=yM (h:=y_ (b_ (h:=ax_ (h:=yM (h:=?_)))))))));refine gw_ (h1:=?_) (h2:=?_)
 rotate_right 1
 focus
  intro c1;first|exact dn c1|(
   have d1:=c1;try simp at d1
   refine gd_ (h:=gd_ (h:=gd_ (h:=gd_ (h:=gd_ (h:=gd_ (h:=gd_ (h:=gd_ (h:=gd_ (h:=gd_ (h:=gd_ (h:=gd_ (h:=?_)))))))))))))
 rotate_right 1
 focus
  intro c1;first|exact dn c1|(
   have d1:=c1;try simp at d1
   refine g_ (h:=yM (h:=g_ (h:=yM (h:=g_ (h:=yM (h:=g_ (h:=y_ (x_ (h:=ax_ (h:=g_ (h:=y_ (l_ (h:=ax_ (h:=g_ (h:=yM (h:=g_ (h:=yM (h:=g_ (h:=y_ ?_)))))))))))))))))));refine b_ (hv:=jZ (c:=j - 1) (by omega) (by omega)) (h:=?_);refine ax_ (h:=g_ (h:=y_ (x_ (h:=ax_ (h:=g_ (h:=y_ (l_ (h:=ax_ (h:=g_ (h:=y_ (ca (hc:=zWr (nth r j) (nth r (j - 1))) (h:=ax_ (h:=g_ (h:=y_ (b_ (h:=ax_ (h:=?_))))))))))))))))))
 all_goals
  refine y_ (pk (h:=ax_ (h:=qO (ed (h:=?_)))))
 all_goals first
 | (
  refine zA ?_;refine c_ (h1:=?_) (h2:=?_)
  rotate_right 1
  focus
   intro c2;first|exact dn c2|(
    have d2:=c2;try simp at d2
    refine zW ?_)
  rotate_right 1
  focus
   intro c2;first|exact dn c2|(
    have d2:=c2;try simp at d2
    have g3:(ers (r.set j (nth r (j - 1))))[j - 1]? = some ((nth (r.set j (nth r (j - 1))) (j - 1)).e.v false):=kP (by simp;omega);refine zC ?_))
 all_goals first|refine zR ?_|(
  refine zA ?_;refine wa_ (zG (qE (yM (h:=yM (h:=yM (h:=yM (h:=y_ ?_)))))));refine b_ (hv:=jZ (c:=j - 1) (by omega) (by omega)) (h:=?_);refine ax_ (h:=yM (h:=yM (h:=y_ ?_)));refine b_ (hv:=jZ (c:=j - 1) (by omega) (by omega)) (h:=?_);refine ax_ (h:=y_ (x_ (h:=ax_ (h:=y_ (l_ (h:=ax_ (h:=yM (h:=yM (h:=y_ (x_ (h:=ax_ (h:=y_ (l_ (h:=ax_ (h:=y_ (x_ (h:=ax_ (h:=y0 (s_ (h:=ax_ (h:=y_ (x_ (h:=ax_ (h:=y0 (s_ (h:=ax_ (h:=qO (ed (h:=?_)))))))))))))))))))))))))))));refine zI (zA (zB (wM (h:=w_ ?_))));refine b_ (hv:=jZ (c:=j - 1) (by omega) (by omega)) (h:=?_);refine W3 (h:=nE (h:=?_)))
 all_goals first
 | (refine(ih ((j - 1,swp r j (j - 1))) (⟨by simp only;omega,by simp only;omega,by simp;omega⟩) ?_ _ ?_).trans ?_;(focus (first|omega|(simp;done)|(simp;omega)));(focus (simp[zH,zFr,swp];done));(focus (rw[bub_t (lt:=ltE) (a:=a) (j:=j) (l:=r) (by omega) (by simp[ltE];omega)])))
 | (apply zP (ex:=(Ext.exit 2)) 4 (some [0,1,2,3,8]);(focus (simp[zH];rfl));(focus (rw[bub_f (by simp[ltE];omega)])))
theorem zZy (a b N:Nat) (hN:N<2000000) (hb:b<=N):∀x:Nat×(List Er),(a<x.1/\x.2.length=N)->∀s,zH 4 (some [0,1,2,3,8]) s=⟨[(0,.ref 0 0 N),(1,.int .i64 a),(2,.int .i64 b),(3,.clo 123 []),(8,.int .i64 x.1)],[(0,⟨false,true,2,ers x.2,0⟩)],4⟩ ->
 oc.loop 226 1 s=some (.exit 0,⟨[],[(0,⟨false,true,2,ers (qG8 ltE a (b - x.1) x.1 x.2),0⟩)],4⟩):=by
 refine zV (σ:=Nat×(List Er)) (fun x=>b - x.1) _ (fun x=>⟨[(0,.ref 0 0 N),(1,.int .i64 a),(2,.int .i64 b),(3,.clo 123 []),(8,.int .i64 x.1)],[(0,⟨false,true,2,ers x.2,0⟩)],4⟩) _ ?_;rintro⟨i,r⟩ hi ih s hs;simp only at hi;refine qD qFn rfl rfl hs ?_;obtain⟨hi1,hi2⟩:=hi;refine wa_ (wa_ (zB (wM (h:=wM (h:=w_ (b_ (h:=nE (h:=zA ?_))))))));refine c_ (h1:=?_) (h2:=?_)
 rotate_right 1
 focus
  intro c1;first|exact dn c1|(
   have d1:=c1;try simp at d1
   refine zW ?_)
 rotate_right 1
 focus
  intro c1;first|exact dn c1|(
   have d1:=c1;try simp at d1
   have hw:=zU (i:=i) (by omega);have wb:=zOs (lt:=ltE) (a:=a) (b:=N) (j:=i) (l:=r) (by omega) (by omega) (by omega);have hbl:=wb.len;refine zC ?_)
 all_goals first|refine zR ?_|(
  refine zA ?_;refine wa_ (zG (wa_ (zB (wM (h:=W3 (h:=nE (h:=zA (zG ?_))))))));refine qH (zYf a b i N hN hb hi1 (by omega) (i,r) ⟨by simp only;omega,by simp,hi2⟩ _ (by simp[zH])) ?_;refine zS (zI (zA (zB (wM (h:=w_ (b_ (h:=W3 (h:=nE (h:=?_))))))))))
 all_goals first
 | (refine(ih ((i+1,bub ltE a i r)) (⟨by simp only;omega,by simp;omega⟩) ?_ _ ?_).trans ?_;(focus (first|omega|(simp;done)|(simp;omega)));(focus (simp[zH,hw];done));(focus (rw[show b - i=(b - (i+1))+1 by omega];rfl)))
 | (apply zP (ex:=(Ext.exit 0)) 4 (some []);(focus (simp[zH];rfl));(focus (rw[show b - i=0 by omega];rfl)))
theorem zPk (a b:Nat) (l:List Er) (hN:l.length<2000000) (hb:b<=l.length) (ha:a<2000000):oc.call 226 [.iol 2 (ers l),.int .i64 a,.int .i64 b,.clo 123 []]=some (.tup [],[.lst true 2 (ers (ins ltE a b l))]):=by
 refine qA rfl qFn rfl rfl rfl (by simp;rfl) (by simp;rfl) ?_;have hw:=zU (i:=a) (by omega);refine wa_ (zB (wM (h:=w_ (b_ (h:=W3 (h:=nE (h:=zA (zG ?_))))))));refine qH (zZy a b l.length hN hb (a+1,l) ⟨by simp,rfl⟩ _ (by simp[zH,hw])) ?_;refine zS ?_
 all_goals (refine qX (hr:=zM) (h:=?_);(focus (simp[ins])))
theorem qCz (n a0 b0 N:Nat) (hN:N<2000000) (h1:a0+n<=b0) (h2:b0+n<=N):∀x:Nat×(List Er),(x.1<=n/\x.2.length=N)->∀s,zH 5 (some [0,1,2,3,10]) s=⟨[(0,.ref 0 0 N),(1,.int .i64 a0),(2,.int .i64 b0),(3,.int .i64 n),(10,.int .i64 x.1)],[(0,⟨false,true,2,ers x.2,0⟩)],5⟩ ->
 oc.loop 273 1 s=some (.exit 0,⟨[],[(0,⟨false,true,2,ers (swR (n - x.1) (a0+x.1) (b0+x.1) x.2),0⟩)],5⟩):=by
 refine zV (σ:=Nat×(List Er)) (fun x=>n - x.1) _ (fun x=>⟨[(0,.ref 0 0 N),(1,.int .i64 a0),(2,.int .i64 b0),(3,.int .i64 n),(10,.int .i64 x.1)],[(0,⟨false,true,2,ers x.2,0⟩)],5⟩) _ ?_;rintro⟨i,r⟩ hi ih s hs;simp only at hi;refine qD qKo rfl rfl hs ?_;obtain⟨hi1,hi2⟩:=hi;refine wa_ (wa_ (zB (wM (h:=wM (h:=w_ (b_ (h:=nE (h:=zA ?_))))))));refine c_ (h1:=?_) (h2:=?_)
 rotate_right 1
 focus
  intro c1;first|exact dn c1|(
   have d1:=c1;try simp at d1
   refine zW ?_)
 rotate_right 1
 focus
  intro c1;first|exact dn c1|(
   have d1:=c1;try simp at d1
   have hw:=zU (i:=i) (by omega);have g1:(ers r)[a0+i]? = some ((nth r (a0+i)).e.v false):=kP (by omega);have g2:(ers r)[b0+i]? = some ((nth r (b0+i)).e.v false):=kP (by omega);have g3:(ers (r.set (a0+i) (nth r (b0+i))))[b0+i]? = some ((nth (r.set (a0+i) (nth r (b0+i))) (b0+i)).e.v false):=kP (by simp;omega);refine zC ?_)
 all_goals first|refine zR ?_|(
  refine zA ?_;refine wa_ (zG (qE (yM (h:=yM (h:=yM (h:=y_ ?_))))));refine b_ (hv:=yF (c:=a0+i) (by omega) (by omega)) (h:=?_);refine ax_ (h:=yM (h:=yM (h:=yM (h:=y_ ?_))));refine b_ (hv:=yF (c:=b0+i) (by omega) (by omega)) (h:=?_);refine ax_ (h:=yM (h:=yM (h:=yM (h:=y_ ?_))));refine b_ (hv:=yF (c:=b0+i) (by omega) (by omega)) (h:=?_);refine ax_ (h:=y_ (x_ (h:=ax_ (h:=y_ (l_ (h:=ax_ (h:=yM (h:=yM (h:=yM (h:=y_ ?_))))))))));refine b_ (hv:=yF (c:=a0+i) (by omega) (by omega)) (h:=?_);refine ax_ (h:=y_ (x_ (h:=ax_ (h:=y_ (l_ (h:=ax_ (h:=y_ (x_ (h:=ax_ (h:=y0 (s_ (h:=ax_ (h:=y_ (x_ (h:=ax_ (h:=y0 (s_ (h:=ax_ (h:=qO (ed (h:=zI (zA (zB (wM (h:=?_)))))))))))))))))))))))));refine w_ (b_ (h:=W3 (h:=nE (h:=?_)))))
 all_goals first
 | (refine(ih ((i+1,swp r (a0+i) (b0+i))) (⟨by simp only;omega,by simp;omega⟩) ?_ _ ?_).trans ?_;(focus (first|omega|(simp;done)|(simp;omega)));(focus (simp[zH,hw,zFr,swp,zOx];done));(focus (rw[show n - i=(n - (i+1))+1 by omega];rfl)))
 | (apply zP (ex:=(Ext.exit 0)) 5 (some []);(focus (simp[zH];rfl));(focus (rw[show n - i=0 by omega];rfl)))
theorem zO8 (a b n:Nat) (l:List Er) (hN:l.length<2000000) (h1:a+n<=b) (h2:b+n<=l.length):oc.call 273 [.iol 2 (ers l),.int .i64 a,.int .i64 b,.int .i64 n,.clo 123 []]=some (.tup [],[.lst true 2 (ers (swR n a b l))]):=by
 refine qA rfl qKo rfl rfl rfl (by simp;rfl) (by simp;rfl) ?_;refine wa_ (zB (W3 (h:=nE (h:=zA (zG ?_)))));refine qH (qCz n a b l.length hN h1 h2 (0,l) ⟨by simp,rfl⟩ _ (by simp[zH])) ?_;refine zS ?_
 all_goals (refine qX (hr:=zM) (h:=?_);(focus (simp)))
def kU (m i j:Nat) (l:List Er):Nat×List Er :=
 if i=0\/j=0\/i=j then(i,l) else if j<i then kU m (i - j) j (swR j (m - i) m l) else kU m i (j - i) (swR i (m - i) (m+j - i) l)
termination_by i + j
decreasing_by all_goals omega
theorem zR3 {m i j:Nat} {l:List Er} (h:i=j):kU m i j l=(i,l):=by
 unfold kU;rw[if_pos (by omega)]
theorem zQ5 {m i j:Nat} {l:List Er} (hj:0<j) (h:j<i):kU m i j l=kU m (i - j) j (swR j (m - i) m l):=by
 conv=>lhs;unfold kU
 rw[if_neg (by omega),if_pos h]
theorem zQu {m i j:Nat} {l:List Er} (hi:0<i) (h:i<j):kU m i j l=kU m i (j - i) (swR i (m - i) (m+j - i) l):=by
 conv=>lhs;unfold kU
 rw[if_neg (by omega),if_neg (by omega)]
theorem zWg {m:Nat}:∀(i j:Nat) (l:List Er),0<i->0<j->i<=m->m+j<=l.length->0<(kU m i j l).1/\(kU m i j l).1<=i/\(kU m i j l).1<=j/\(kU m i j l).2.length=l.length/\swR (kU m i j l).1 (m - (kU m i j l).1) m (kU m i j l).2=rot m i j l:=by
 intro i j
 induction hd:i+j using Nat.strongRecOn generalizing i j with
 | _ d ih =>
  subst hd;intro l h1 h2 h3 h4;rcases Nat.lt_trichotomy i j with h|h|h
  ·have hs:=(zEa (n:=i) (a:=m - i) (b:=m+j - i) (l:=l) (by omega) (by omega)).1.length_eq
   rw[zQu h1 h,rot_2 h1 h];obtain⟨a,b,c,d,e⟩:=ih (i+(j - i)) (by omega) i (j - i) rfl (swR i (m - i) (m+j - i) l) h1 (by omega) h3 (by omega);exact⟨a,b,by omega,d.trans hs,e⟩
  ·rw[zR3 h,rot_0 h1 h]
   exact⟨h1,Nat.le_refl _,by simp only;omega,rfl,rfl⟩
  ·have hs:=(zEa (n:=j) (a:=m - i) (b:=m) (l:=l) (by omega) (by omega)).1.length_eq
   rw[zQ5 h2 h,rot_1 h2 h];obtain⟨a,b,c,d,e⟩:=ih (i - j+j) (by omega) (i - j) j rfl (swR j (m - i) m l) (by omega) h2 (by omega) (by omega);exact⟨a,by omega,c,d.trans hs,e⟩
theorem qFh (m N:Nat) (hN:N<2000000):∀x:Nat×Nat×(List Er),(0<x.1/\0<x.2.1/\x.1<=m/\m+x.2.1<=N/\x.2.2.length=N)->∀s,zH 5 (some [0,2,4,10,11]) s=⟨[(0,.ref 0 0 N),(2,.int .i64 m),(4,.clo 123 []),(10,.int .i64 x.1),(11,.int .i64 x.2.1)],[(0,⟨false,true,2,ers x.2.2,0⟩)],5⟩ ->
 oc.loop 252 2 s=some (.exit 0,⟨[(0,.ref 0 0 N),(2,.int .i64 m),(4,.clo 123 []),(10,.int .i64 ((kU m x.1 x.2.1 x.2.2).1:Nat))],[(0,⟨false,true,2,ers (kU m x.1 x.2.1 x.2.2).2,0⟩)],5⟩):=by
 refine zV (σ:=Nat×Nat×(List Er)) (fun x=>x.1+x.2.1) _ (fun x=>⟨[(0,.ref 0 0 N),(2,.int .i64 m),(4,.clo 123 []),(10,.int .i64 x.1),(11,.int .i64 x.2.1)],[(0,⟨false,true,2,ers x.2.2,0⟩)],5⟩) _ ?_;rintro⟨i,j,r⟩ hi ih s hs;simp only at hi;refine qD qM4 rfl rfl hs ?_;obtain⟨hi1,hi2,hi3,hi4,hi5⟩:=hi;refine wa_ (wa_ (zB (wM (h:=wM (h:=w_ (bE (h:=nE (h:=zA ?_))))))));refine c_ (h1:=?_) (h2:=?_)
 rotate_right 1
 focus
  intro c1;first|exact dn c1|(
   have d1:=c1;try simp at d1
   refine zW ?_)
 rotate_right 1
 focus
  intro c1;first|exact dn c1|(
   have d1:=c1;try simp at d1
   refine zC ?_)
 all_goals first|refine zR ?_|(
  refine zA ?_;refine zG (wa_ (zB (wM (h:=wM (h:=w_ (b_ (h:=nE (h:=zA ?_))))))));refine c_ (h1:=?_) (h2:=?_)
  rotate_right 1
  focus
   intro c2;first|exact dn c2|(
    have d2:=c2;try simp at d2
    have hij:i<j:=(by simp at *;omega);have hsl:=(zEa (n:=i) (a:=m - i) (b:=m+j - i) (l:=r) (by omega) (by omega)).1.length_eq;refine wa_ (zB (wM (h:=wM (h:=wM (h:=w_ ?_)))));refine b_ (hv:=jZ (c:=m - i) (by simp only;omega) (by omega)) (h:=?_);refine wM (h:=wM (h:=w_ ?_));refine b_ (hv:=yF (c:=m+j) (by simp only;omega) (by omega)) (h:=?_);refine wM (h:=w_ ?_);refine b_ (hv:=jZ (c:=m+j - i) (by simp only;omega) (by omega)) (h:=?_);refine wM (h:=wM (h:=w_ ?_));refine cI (hc:=zO8 (m - i) (m+j - i) i r (by omega) (by omega) (by omega)) (hal:=yR hsl.symm) (h:=?_);refine nE (h:=zA (zB (wM (h:=wM (h:=w_ ?_)))));refine b_ (hv:=jZ (c:=j - i) (by simp only;omega) (by omega)) (h:=?_);refine W3 (h:=nE (h:=?_)))
  rotate_right 1
  focus
   intro c2;first|exact dn c2|(
    have d2:=c2;try simp at d2
    have hij:j<i:=(by simp at *;omega);have hsl:=(zEa (n:=j) (a:=m - i) (b:=m) (l:=r) (by omega) (by omega)).1.length_eq;refine wa_ (zB (wM (h:=wM (h:=wM (h:=w_ ?_)))));refine b_ (hv:=jZ (c:=m - i) (by simp only;omega) (by omega)) (h:=?_);refine wM (h:=wM (h:=wM (h:=w_ ?_)));refine cI (hc:=zO8 (m - i) m j r (by omega) (by omega) (by omega)) (hal:=yR hsl.symm) (h:=?_);refine nE (h:=zA (zB (wM (h:=wM (h:=w_ ?_)))));refine b_ (hv:=jZ (c:=i - j) (by simp only;omega) (by omega)) (h:=?_);refine W3 (h:=nE (h:=?_)))
  all_goals refine zI ?_)
 all_goals first
 | (refine(ih ((i - j,j,swR j (m - i) m r)) (⟨by simp only;omega,by simp only;omega,by simp only;omega,by simp only;omega,by simp only;omega⟩) ?_ _ ?_).trans ?_;(focus (first|omega|(simp;done)|(simp;omega)));(focus (simp[zH,zOx];done));(focus (rw[zQ5 (l:=r) hi2 hij])))
 | (refine(ih ((i,j - i,swR i (m - i) (m+j - i) r)) (⟨by simp only;omega,by simp only;omega,by simp only;omega,by simp only;omega,by simp only;omega⟩) ?_ _ ?_).trans ?_;(focus (first|omega|(simp;done)|(simp;omega)));(focus (simp[zH,zOx];done));(focus (rw[zQu (l:=r) hi1 hij])))
 | (apply zP (ex:=(Ext.exit 0)) 5 (some [0,2,4,10]);(focus (simp[zH];rfl));(focus (rw[zR3 (by simp at *;omega)])))
theorem qC8 (a m b:Nat) (l:List Er) (hN:l.length<2000000) (h1:a<m) (h2:m<b) (h3:b<=l.length):oc.call 252 [.iol 2 (ers l),.int .i64 a,.int .i64 m,.int .i64 b,.clo 123 []]=some (.tup [],[.lst true 2 (ers (rot m (m - a) (b - m) l))]):=by
 refine qA rfl qM4 rfl rfl rfl (by simp;rfl) (by simp;rfl) ?_;obtain⟨q1,q2,q3,q4,q5⟩:=zWg (m:=m) (m - a) (b - m) l (by omega) (by omega) (by omega) (by omega);have hq:=(zEa (n:=(kU m (m - a) (b - m) l).1) (a:=m - (kU m (m - a) (b - m) l).1) (b:=m) (l:=(kU m (m - a) (b - m) l).2) (by omega) (by omega)).1.length_eq;refine wa_ (zB (wM (h:=wM (h:=w_ ?_))));refine b_ (hv:=jZ (c:=m - a) (by omega) (by omega)) (h:=?_);refine W3 (h:=nE (h:=zA (wa_ (zB (wM (h:=wM (h:=w_ ?_)))))));refine b_ (hv:=jZ (c:=b - m) (by omega) (by omega)) (h:=?_);refine W3 (h:=nE (h:=zA (wa_ (zG ?_))));refine qH (qFh m l.length hN (m - a,b - m,l) ⟨by simp only;omega,by simp only;omega,by simp only;omega,by simp only;omega,rfl⟩ _ (by simp[zH])) ?_;refine zS (zA (zB (wM (h:=wM (h:=wM (h:=w_ ?_))))));refine b_ (hv:=jZ (c:=m - (kU m (m - a) (b - m) l).1) (by simp only;omega) (by omega)) (h:=?_);refine wM (h:=wM (h:=wM (h:=w_ ?_)));refine cI (hc:=zO8 (m - (kU m (m - a) (b - m) l).1) m (kU m (m - a) (b - m) l).1 (kU m (m - a) (b - m) l).2 (by omega) (by omega) (by omega)) (hal:=yR hq.symm) (h:=?_);refine nE (h:=?_)
 all_goals (refine qX (hr:=zM) (h:=?_);(focus (simp[q5])))
end Go.Proofs.YtbcgenkegnmkhaaGreat.Ev
namespace Go.Proofs.YtbcgenkegnmkhaaGreat.Ev
open Go
set_option maxRecDepth 100000
set_option linter.unusedSimpArgs false
set_option linter.unusedVariables false
set_option maxHeartbeats 2000000
theorem qKw (a N:Nat) (r:List Er) (hN:N<2000000) (hr:r.length=N) (ha:a<N):∀x:Nat×Nat,(x.1<=x.2/\x.2<=N)->∀s,zH 5 (some [0,1,4,10,11]) s=⟨[(0,.ref 0 0 N),(1,.int .i64 a),(4,.clo 123 []),(10,.int .i64 x.1),(11,.int .i64 x.2)],[(0,⟨false,true,2,ers r,0⟩)],5⟩ ->
 oc.loop 227 3 s=some (.exit 0,⟨[(0,.ref 0 0 N),(1,.int .i64 a),(10,.int .i64 (hlf (fun h=>ltE (nth r h) (nth r a)) x.1 x.2:Nat))],[(0,⟨false,true,2,ers r,0⟩)],5⟩):=by
 refine zV (σ:=Nat×Nat) (fun x=>x.2 - x.1) _ (fun x=>⟨[(0,.ref 0 0 N),(1,.int .i64 a),(4,.clo 123 []),(10,.int .i64 x.1),(11,.int .i64 x.2)],[(0,⟨false,true,2,ers r,0⟩)],5⟩) _ ?_;rintro⟨i,j⟩ hi ih s hs;simp only at hi;refine qD zSl rfl rfl hs ?_;obtain⟨hi1,hi2⟩:=hi;refine wa_ (wa_ (zB (wM (h:=wM (h:=w_ (b_ (h:=nE (h:=zA ?_))))))));refine c_ (h1:=?_) (h2:=?_)
 rotate_right 1
 focus
  intro c1;first|exact dn c1|(
   have d1:=c1;try simp at d1
   refine zW ?_)
 rotate_right 1
 focus
  intro c1;first|exact dn c1|(
   have d1:=c1;try simp at d1
   have g1:(ers r)[(i+j) / 2]? = some ((nth r ((i+j) / 2)).e.v false):=kP (by omega);have g2:(ers r)[a]? = some ((nth r a).e.v false):=kP (by omega);refine zC ?_)
 all_goals first|refine zR ?_|(
  refine zA ?_;refine zG (wa_ (zB (wM (h:=wM (h:=w_ ?_)))));refine b_ (hv:=yF (c:=i+j) (by simp) (by omega)) (h:=?_);refine w_ ?_;refine cvN (c:=i+j) (hc:=zKg (by omega)) (h:=?_);refine w_ ?_;refine sh (hv:=shr1) (h:=?_);refine w_ ?_;refine cvN (c:=(i+j) / 2) (hc:=zDu (by omega)) (h:=?_);refine W3 (h:=nE (h:=zA (wa_ (qE (yM (h:=yM (h:=yM (h:=y_ (x_ (h:=ax_ (h:=y_ (l_ (h:=ax_ (h:=yM (h:=yM (h:=?_))))))))))))))));refine y_ (x_ (h:=ax_ (h:=y_ (l_ (h:=ax_ (h:=y_ (ca (hc:=zWr (nth r ((i+j) / 2)) (nth r a)) (h:=ax_ (h:=y_ (b_ (h:=ax_ (h:=qO (ed (h:=zA ?_))))))))))))));refine c_ (h1:=?_) (h2:=?_)
  rotate_right 1
  focus
   intro c2;first|exact dn c2|(
    have d2:=c2;try simp at d2
    refine zB (wM (h:=W3 (h:=nE (h:=?_)))))
  rotate_right 1
  focus
   intro c2;first|exact dn c2|(
    have d2:=c2;try simp at d2
    refine zB (wM (h:=w_ ?_));refine b_ (hv:=yF (c:=(i+j) / 2+1) (by simp) (by omega)) (h:=?_);refine W3 (h:=nE (h:=?_)))
  all_goals refine zI ?_)
 all_goals first
 | (refine(ih (((i+j) / 2+1,j)) (⟨by simp only;omega,by simp only;omega⟩) ?_ _ ?_).trans ?_;(focus (first|omega|(simp;done)|(simp;omega)));(focus (simp[zH,zOx];done));(focus (rw[qD3 (i:=i) (j:=j) (by omega) (by simp[ltE];omega)])))
 | (refine(ih ((i,(i+j) / 2)) (⟨by simp only;omega,by simp only;omega⟩) ?_ _ ?_).trans ?_;(focus (first|omega|(simp;done)|(simp;omega)));(focus (simp[zH,zOx];done));(focus (rw[qF5 (i:=i) (j:=j) (by omega) (by simp[ltE];omega)])))
 | (apply zP (ex:=(Ext.exit 0)) 5 (some [0,1,10]);(focus (simp[zH];rfl));(focus (rw[qDc (i:=i) (j:=j) (by omega)])))
theorem qDf (m N:Nat) (r:List Er) (hN:N<2000000) (hr:r.length=N) (hm:m<N):∀x:Nat×Nat,(x.1<=x.2/\x.2<=N)->∀s,zH 5 (some [0,2,4,14,15]) s=⟨[(0,.ref 0 0 N),(2,.int .i64 m),(4,.clo 123 []),(14,.int .i64 x.1),(15,.int .i64 x.2)],[(0,⟨false,true,2,ers r,0⟩)],5⟩ ->
 oc.loop 227 15 s=some (.exit 4,⟨[(0,.ref 0 0 N),(2,.int .i64 m),(14,.int .i64 (hlf (fun h=>!ltE (nth r m) (nth r h)) x.1 x.2:Nat))],[(0,⟨false,true,2,ers r,0⟩)],5⟩):=by
 refine zV (σ:=Nat×Nat) (fun x=>x.2 - x.1) _ (fun x=>⟨[(0,.ref 0 0 N),(2,.int .i64 m),(4,.clo 123 []),(14,.int .i64 x.1),(15,.int .i64 x.2)],[(0,⟨false,true,2,ers r,0⟩)],5⟩) _ ?_;rintro⟨i,j⟩ hi ih s hs;simp only at hi;refine qD zSl rfl rfl hs ?_;obtain⟨hi1,hi2⟩:=hi;refine wa_ (wa_ (zB (wM (h:=wM (h:=w_ (b_ (h:=nE (h:=zA ?_))))))));refine c_ (h1:=?_) (h2:=?_)
 rotate_right 1
 focus
  intro c1;first|exact dn c1|(
   have d1:=c1;try simp at d1
   refine zW ?_)
 rotate_right 1
 focus
  intro c1;first|exact dn c1|(
   have d1:=c1;try simp at d1
   have g1:(ers r)[(i+j) / 2]? = some ((nth r ((i+j) / 2)).e.v false):=kP (by omega);have g2:(ers r)[m]? = some ((nth r m).e.v false):=kP (by omega);refine zC ?_)
 all_goals first|refine zR ?_|(
  refine zA ?_;refine zG (wa_ (zB (wM (h:=wM (h:=w_ ?_)))));refine b_ (hv:=yF (c:=i+j) (by simp) (by omega)) (h:=?_);refine w_ ?_;refine cvN (c:=i+j) (hc:=zKg (by omega)) (h:=?_);refine w_ ?_;refine sh (hv:=shr1) (h:=?_);refine w_ ?_;refine cvN (c:=(i+j) / 2) (hc:=zDu (by omega)) (h:=?_);refine W3 (h:=nE (h:=zA (wa_ (qE (yM (h:=yM (h:=yM (h:=y_ (x_ (h:=ax_ (h:=y_ (l_ (h:=ax_ (h:=yM (h:=yM (h:=?_))))))))))))))));refine y_ (x_ (h:=ax_ (h:=y_ (l_ (h:=ax_ (h:=y_ (ca (hc:=zWr (nth r m) (nth r ((i+j) / 2))) (h:=ax_ (h:=y_ (b_ (h:=ax_ (h:=y_ (u_ (h:=ax_ (h:=qO (ed (h:=zA ?_)))))))))))))))));refine c_ (h1:=?_) (h2:=?_)
  rotate_right 1
  focus
   intro c2;first|exact dn c2|(
    have d2:=c2;try simp at d2
    refine zB (wM (h:=W3 (h:=nE (h:=?_)))))
  rotate_right 1
  focus
   intro c2;first|exact dn c2|(
    have d2:=c2;try simp at d2
    refine zB (wM (h:=w_ ?_));refine b_ (hv:=yF (c:=(i+j) / 2+1) (by simp) (by omega)) (h:=?_);refine W3 (h:=nE (h:=?_)))
  all_goals refine zI ?_)
 all_goals first
 | (refine(ih (((i+j) / 2+1,j)) (⟨by simp only;omega,by simp only;omega⟩) ?_ _ ?_).trans ?_;(focus (first|omega|(simp;done)|(simp;omega)));(focus (simp[zH,zOx];done));(focus (rw[qD3 (i:=i) (j:=j) (by omega) (by simp[ltE];omega)])))
 | (refine(ih ((i,(i+j) / 2)) (⟨by simp only;omega,by simp only;omega⟩) ?_ _ ?_).trans ?_;(focus (first|omega|(simp;done)|(simp;omega)));(focus (simp[zH,zOx];done));(focus (rw[qF5 (i:=i) (j:=j) (by omega) (by simp[ltE];omega)])))
 | (apply zP (ex:=(Ext.exit 4)) 5 (some [0,2,14]);(focus (simp[zH];rfl));(focus (rw[qDc (i:=i) (j:=j) (by omega)])))
theorem qJ6 (i N:Nat) (hN:N<2000000) (hi1:1<=i) (hiN:i<=N):∀x:Nat×(List Er),(x.1<=i - 1/\x.2.length=N)->∀s,zH 5 (some [0,10,13]) s=⟨[(0,.ref 0 0 N),(10,.int .i64 i),(13,.int .i64 x.1)],[(0,⟨false,true,2,ers x.2,0⟩)],5⟩ ->
 oc.loop 227 9 s=some (.exit 2,⟨[],[(0,⟨false,true,2,ers (mvU (i - 1 - x.1) x.1 x.2),0⟩)],5⟩):=by
 refine zV (σ:=Nat×(List Er)) (fun x=>i - 1 - x.1) _ (fun x=>⟨[(0,.ref 0 0 N),(10,.int .i64 i),(13,.int .i64 x.1)],[(0,⟨false,true,2,ers x.2,0⟩)],5⟩) _ ?_;rintro⟨k,r⟩ hi ih s hs;simp only at hi;refine qD zSl rfl rfl hs ?_;obtain⟨hk1,hk2⟩:=hi;refine wa_ (wa_ (zB (wM (h:=wM (h:=w_ ?_)))));refine b_ (hv:=jZ (c:=i - 1) (by omega) (by omega)) (h:=?_);refine w_ (b_ (h:=nE (h:=zA ?_)));refine c_ (h1:=?_) (h2:=?_)
 rotate_right 1
 focus
  intro c1;first|exact dn c1|(
   have d1:=c1;try simp at d1
   have hki:¬k<i - 1:=(by simp at c1;omega);refine zW ?_)
 rotate_right 1
 focus
  intro c1;first|exact dn c1|(
   have d1:=c1;try simp at d1
   have hki:k<i - 1:=(by simp at c1;omega);have g1:(ers r)[k]? = some ((nth r k).e.v false):=kP (by omega);have g2:(ers r)[k+1]? = some ((nth r (k+1)).e.v false):=kP (by omega);have g3:(ers (r.set k (nth r (k+1))))[k+1]? = some ((nth (r.set k (nth r (k+1))) (k+1)).e.v false):=kP (by simp;omega);refine zC ?_)
 all_goals first|refine zR ?_|(
  refine zA ?_;refine wa_ (zG (qE (yM (h:=yM (h:=yM (h:=yM (h:=y_ ?_)))))));refine b_ (hv:=yF (c:=k+1) (by simp) (by omega)) (h:=?_);refine ax_ (h:=yM (h:=yM (h:=y_ ?_)));refine b_ (hv:=yF (c:=k+1) (by simp) (by omega)) (h:=?_);refine ax_ (h:=y_ (x_ (h:=ax_ (h:=y_ (l_ (h:=ax_ (h:=yM (h:=yM (h:=y_ (x_ (h:=ax_ (h:=y_ (l_ (h:=ax_ (h:=y_ (x_ (h:=ax_ (h:=y0 (s_ (h:=ax_ (h:=y_ (x_ (h:=ax_ (h:=y0 (s_ (h:=ax_ (h:=qO (ed (h:=?_)))))))))))))))))))))))))))));refine zI (zA (zB (wM (h:=w_ ?_))));refine b_ (hv:=yF (c:=k+1) (by simp) (by omega)) (h:=?_);refine W3 (h:=nE (h:=?_)))
 all_goals first
 | (refine(ih ((k+1,swp r k (k+1))) (⟨by simp only;omega,by simp;omega⟩) ?_ _ ?_).trans ?_;(focus (first|omega|(simp;done)|(simp;omega)));(focus (simp[zH,zFr,swp,zOx];done));(focus (rw[show i - 1 - k=(i - 1 - (k+1))+1 by omega];rfl)))
 | (apply zP (ex:=(Ext.exit 2)) 5 (some []);(focus (simp[zH];rfl));(focus (rw[show i - 1 - k=0 by omega];rfl)))
theorem qEu (i N:Nat) (hN:N<2000000):∀x:Nat×(List Er),(i<=x.1/\x.1<N/\x.2.length=N)->∀s,zH 5 (some [0,14,17]) s=⟨[(0,.ref 0 0 N),(14,.int .i64 i),(17,.int .i64 x.1)],[(0,⟨false,true,2,ers x.2,0⟩)],5⟩ ->
 oc.loop 227 21 s=some (.exit 6,⟨[],[(0,⟨false,true,2,ers (mvD (x.1 - i) x.1 x.2),0⟩)],5⟩):=by
 refine zV (σ:=Nat×(List Er)) (fun x=>x.1 - i) _ (fun x=>⟨[(0,.ref 0 0 N),(14,.int .i64 i),(17,.int .i64 x.1)],[(0,⟨false,true,2,ers x.2,0⟩)],5⟩) _ ?_;rintro⟨k,r⟩ hi ih s hs;simp only at hi;refine qD zSl rfl rfl hs ?_;obtain⟨hk1,hk2,hk3⟩:=hi;refine wa_ (wa_ (zB (wM (h:=wM (h:=w_ (b_ (h:=nE (h:=zA ?_))))))));refine c_ (h1:=?_) (h2:=?_)
 rotate_right 1
 focus
  intro c1;first|exact dn c1|(
   have d1:=c1;try simp at d1
   have hki:¬i<k:=(by simp at c1;omega);refine zW ?_)
 rotate_right 1
 focus
  intro c1;first|exact dn c1|(
   have d1:=c1;try simp at d1
   have hki:i<k:=(by simp at c1;omega);have g1:(ers r)[k]? = some ((nth r k).e.v false):=kP (by omega);have g2:(ers r)[k - 1]? = some ((nth r (k - 1)).e.v false):=kP (by omega);have g3:(ers (r.set k (nth r (k - 1))))[k - 1]? = some ((nth (r.set k (nth r (k - 1))) (k - 1)).e.v false):=kP (by simp;omega);refine zC ?_)
 all_goals first|refine zR ?_|(
  refine zA ?_;refine wa_ (zG (qE (yM (h:=yM (h:=yM (h:=yM (h:=y_ ?_)))))));refine b_ (hv:=jZ (c:=k - 1) (by omega) (by omega)) (h:=?_);refine ax_ (h:=yM (h:=yM (h:=y_ ?_)));refine b_ (hv:=jZ (c:=k - 1) (by omega) (by omega)) (h:=?_);refine ax_ (h:=y_ (x_ (h:=ax_ (h:=y_ (l_ (h:=ax_ (h:=yM (h:=yM (h:=y_ (x_ (h:=ax_ (h:=y_ (l_ (h:=ax_ (h:=y_ (x_ (h:=ax_ (h:=y0 (s_ (h:=ax_ (h:=y_ (x_ (h:=ax_ (h:=y0 (s_ (h:=ax_ (h:=qO (ed (h:=?_)))))))))))))))))))))))))))));refine zI (zA (zB (wM (h:=w_ ?_))));refine b_ (hv:=jZ (c:=k - 1) (by omega) (by omega)) (h:=?_);refine W3 (h:=nE (h:=?_)))
 all_goals first
 | (refine(ih ((k - 1,swp r k (k - 1))) (⟨by simp only;omega,by simp only;omega,by simp;omega⟩) ?_ _ ?_).trans ?_;(focus (first|omega|(simp;done)|(simp;omega)));(focus (simp[zH,zFr,swp,zOx];done));(focus (rw[show k - i=(k - 1 - i)+1 by omega];rfl)))
 | (apply zP (ex:=(Ext.exit 6)) 5 (some []);(focus (simp[zH];rfl));(focus (rw[show k - i=0 by omega];rfl)))
theorem zWa (a m b mid lo hi0 N:Nat) (r:List Er) (hN:N<2000000) (hr:r.length=N) (h1:hi0<=N) (h2:hi0<=mid+m) (h3:mid+m<=N+lo) (h4:m<=N) (h5:mid<=N):∀x:Nat×Nat,(lo<=x.1/\x.1<=x.2/\x.2<=hi0)->∀s,zH 5 (some [0,1,2,3,4,18,19,20,21,22]) s=⟨[(0,.ref 0 0 N),(1,.int .i64 a),(2,.int .i64 m),(3,.int .i64 b),(4,.clo 123 []),(18,.int .i64 mid),(19,.int .i64 (mid+m:Nat)),(20,.int .i64 x.1),(21,.int .i64 x.2),(22,.int .i64 (mid+m - 1:Nat))],[(0,⟨false,true,2,ers r,0⟩)],5⟩ ->
 oc.loop 227 33 s=some (.exit 8,⟨[(0,.ref 0 0 N),(1,.int .i64 a),(2,.int .i64 m),(3,.int .i64 b),(4,.clo 123 []),(18,.int .i64 mid),(19,.int .i64 (mid+m:Nat)),(20,.int .i64 (hlf (fun c=>!ltE (nth r (mid+m - 1 - c)) (nth r c)) x.1 x.2:Nat))],[(0,⟨false,true,2,ers r,0⟩)],5⟩):=by
 refine zV (σ:=Nat×Nat) (fun x=>x.2 - x.1) _ (fun x=>⟨[(0,.ref 0 0 N),(1,.int .i64 a),(2,.int .i64 m),(3,.int .i64 b),(4,.clo 123 []),(18,.int .i64 mid),(19,.int .i64 (mid+m:Nat)),(20,.int .i64 x.1),(21,.int .i64 x.2),(22,.int .i64 (mid+m - 1:Nat))],[(0,⟨false,true,2,ers r,0⟩)],5⟩) _ ?_;rintro⟨i,j⟩ hi ih s hs;simp only at hi;refine qD zSl rfl rfl hs ?_;obtain⟨hi1,hi2,hi3⟩:=hi;refine wa_ (wa_ (zB (wM (h:=wM (h:=w_ (b_ (h:=nE (h:=zA ?_))))))));refine c_ (h1:=?_) (h2:=?_)
 rotate_right 1
 focus
  intro c1;first|exact dn c1|(
   have d1:=c1;try simp at d1
   refine zW ?_)
 rotate_right 1
 focus
  intro c1;first|exact dn c1|(
   have d1:=c1;try simp at d1
   have hc1:mid+m - 1 - (i+j) / 2<r.length:=(by omega);have g1:(ers r)[(i+j) / 2]? = some ((nth r ((i+j) / 2)).e.v false):=kP (by omega);have g2:(ers r)[mid+m - 1 - (i+j) / 2]? = some ((nth r (mid+m - 1 - (i+j) / 2)).e.v false):=kP hc1;refine zC ?_)
 all_goals first|refine zR ?_|(
  refine zA ?_;refine zG (wa_ (zB (wM (h:=wM (h:=w_ ?_)))));refine b_ (hv:=yF (c:=i+j) (by simp) (by omega)) (h:=?_);refine w_ ?_;refine cvN (c:=i+j) (hc:=zKg (by omega)) (h:=?_);refine w_ ?_;refine sh (hv:=shr1) (h:=?_);refine w_ ?_;refine cvN (c:=(i+j) / 2) (hc:=zDu (by omega)) (h:=?_);refine W3 (h:=nE (h:=zA (wa_ (qE (yM (h:=yM (h:=yM (h:=yM (h:=y_ ?_)))))))));refine b_ (hv:=jZ (c:=mid+m - 1 - (i+j) / 2) (by omega) (by omega)) (h:=?_);refine ax_ (h:=y_ (x_ (h:=ax_ (h:=y_ (l_ (h:=ax_ (h:=yM (h:=yM (h:=y_ (x_ (h:=ax_ (h:=y_ (l_ (h:=ax_ (h:=y_ (ca (hc:=zWr (nth r (mid+m - 1 - (i+j) / 2)) (nth r ((i+j) / 2))) (h:=ax_ (h:=y_ (b_ (h:=ax_ (h:=y_ (u_ (h:=ax_ (h:=qO (ed (h:=zA ?_))))))))))))))))))))))))));refine c_ (h1:=?_) (h2:=?_)
  rotate_right 1
  focus
   intro c2;first|exact dn c2|(
    have d2:=c2;try simp at d2
    refine zB (wM (h:=W3 (h:=nE (h:=?_)))))
  rotate_right 1
  focus
   intro c2;first|exact dn c2|(
    have d2:=c2;try simp at d2
    refine zB (wM (h:=w_ ?_));refine b_ (hv:=yF (c:=(i+j) / 2+1) (by simp) (by omega)) (h:=?_);refine W3 (h:=nE (h:=?_)))
  all_goals refine zI ?_)
 all_goals first
 | (refine(ih (((i+j) / 2+1,j)) (⟨by simp only;omega,by simp only;omega,by simp only;omega⟩) ?_ _ ?_).trans ?_;(focus (first|omega|(simp;done)|(simp;omega)));(focus (simp[zH,zOx];done));(focus (rw[qD3 (i:=i) (j:=j) (by omega) (by simp[ltE];omega)])))
 | (refine(ih ((i,(i+j) / 2)) (⟨by simp only;omega,by simp only;omega,by simp only;omega⟩) ?_ _ ?_).trans ?_;(focus (first|omega|(simp;done)|(simp;omega)));(focus (simp[zH,zOx];done));(focus (rw[qF5 (i:=i) (j:=j) (by omega) (by simp[ltE];omega)])))
 | (apply zP (ex:=(Ext.exit 8)) 5 (some [0,1,2,3,4,18,19,20]);(focus (simp[zH];rfl));(focus (rw[qDc (i:=i) (j:=j) (by omega)];simp)))
theorem zPb {lt:Er->Er->Bool} {a m b:Nat} {l:List Er} (h:(a+b) / 2<m):kH lt a m b l=hlf (fun c=>!lt (nth l ((a+b) / 2+m - 1 - c)) (nth l c)) ((a+b) / 2+m - b) ((a+b) / 2):=by
 unfold kH;rw[if_pos h]
theorem zQk {lt:Er->Er->Bool} {a m b:Nat} {l:List Er} (h:¬(a+b) / 2<m):kH lt a m b l=hlf (fun c=>!lt (nth l ((a+b) / 2+m - 1 - c)) (nth l c)) a m:=by
 unfold kH;rw[if_neg h]
theorem zKo {lt:Er->Er->Bool} {a m b:Nat} {l:List Er} (h1:a<m) (h2:m<b):kH lt a m b l<=m/\kH lt a m b l<=(a+b) / 2/\a<=kH lt a m b l/\(a+b) / 2+m - kH lt a m b l<=b:=by
 by_cases h:(a+b) / 2<m
 ·rw[zPb h]
  have:=zDx (p:=fun c=>!lt (nth l ((a+b) / 2+m - 1 - c)) (nth l c)) ((a+b) / 2+m - b) ((a+b) / 2) (by omega)
  omega
 ·rw[zQk h]
  have:=zDx (p:=fun c=>!lt (nth l ((a+b) / 2+m - 1 - c)) (nth l c)) a m (by omega)
  omega
theorem qDd (a m b N:Nat) (r:List Er) (hN:N<2000000) (hr:r.length=N) (h1:a<m) (h2:m<b) (hb:b<=N) (i j:Nat) (h:(a+b) / 2<m/\i=(a+b) / 2+m - b/\j=(a+b) / 2\/¬(a+b) / 2<m/\i=a/\j=m):∀s,zH 5 (some [0,1,2,3,4,18,19,20,21,22]) s=⟨[(0,.ref 0 0 N),(1,.int .i64 a),(2,.int .i64 m),(3,.int .i64 b),(4,.clo 123 []),(18,.int .i64 ((a+b) / 2:Nat)),(19,.int .i64 ((a+b) / 2+m:Nat)),(20,.int .i64 i),(21,.int .i64 j),(22,.int .i64 ((a+b) / 2+m - 1:Nat))],[(0,⟨false,true,2,ers r,0⟩)],5⟩ ->
  oc.loop 227 33 s=some (.exit 8,⟨[(0,.ref 0 0 N),(1,.int .i64 a),(2,.int .i64 m),(3,.int .i64 b),(4,.clo 123 []),(18,.int .i64 ((a+b) / 2:Nat)),(19,.int .i64 ((a+b) / 2+m:Nat)),(20,.int .i64 (kH ltE a m b r:Nat))],[(0,⟨false,true,2,ers r,0⟩)],5⟩):=by
 rcases h with⟨h,rfl,rfl⟩|⟨h,rfl,rfl⟩
 ·rw[zPb h]
  exact zWa a m b ((a+b) / 2) ((a+b) / 2+m - b) ((a+b) / 2) N r hN hr (by omega) (by omega) (by omega) (by omega) (by omega) (_,_) ⟨Nat.le_refl _,by simp only;omega,Nat.le_refl _⟩
 ·rw[zQk h]
  exact zWa i j b ((i+b) / 2) i j N r hN hr (by omega) (by omega) (by omega) (by omega) (by omega) (_,_) ⟨Nat.le_refl _,by simp only;omega,Nat.le_refl _⟩
theorem jS {lt:Er->Er->Bool}:∀(f a m b:Nat) (l:List Er),a<m->m<b->b<=l.length->(zAt lt f a m b l).length=l.length
 | 0,a,m,b,l,h1,h2,hb=>rfl
 | f+1,a,m,b,l,h1,h2,hb=>by
  unfold zAt;split
  ·obtain⟨q1,q2,_⟩:=zDx (p:=fun h=>lt (nth l h) (nth l a)) m b (by omega)
   exact(zWz (by omega)).1.len
  ·split
   ·obtain⟨q1,q2,_⟩:=zDx (p:=fun h=>!lt (nth l m) (nth l h)) a m (by omega)
    exact(zW7 (by omega) (by omega)).1.len
   ·obtain⟨r1,r2,r3,r4⟩:=zKo (lt:=lt) (l:=l) h1 h2
    simp only
    generalize kH lt a m b l=s at *
    have hl1:=(zQ1 (s:=s) (m:=m) (mid:=(a+b) / 2) (l:=l) r2 r1 (by omega)).1.length_eq
    generalize zKj s m ((a+b) / 2) l=l1 at *
    have hl2:(if a<s/\s<(a+b) / 2 then zAt lt f a s ((a+b) / 2) l1 else l1).length=l.length:=by
     split
     ·rename_i h
      exact(jS f a s ((a+b) / 2) l1 h.1 h.2 (by omega)).trans hl1
     ·exact hl1
    generalize (if a<s/\s<(a+b) / 2 then zAt lt f a s ((a+b) / 2) l1 else l1)=l2 at *
    split
    ·rename_i h
     exact(jS f _ _ b l2 h.1 h.2 (by omega)).trans hl2
    ·exact hl2
theorem zQ0 {lt:Er->Er->Bool} {f a m b:Nat} {l:List Er} (h:m - a=1):zAt lt (f+1) a m b l=mvU (hlf (fun h=>lt (nth l h) (nth l a)) m b - 1 - a) a l:=by
 conv=>lhs;unfold zAt
 rw[if_pos h]
theorem zPt {lt:Er->Er->Bool} {f a m b:Nat} {l:List Er} (h1:¬m - a=1) (h:b - m=1):zAt lt (f+1) a m b l=mvD (m - hlf (fun h=>!lt (nth l m) (nth l h)) a m) m l:=by
 conv=>lhs;unfold zAt
 rw[if_neg h1,if_pos h]
theorem zQr:∀(f a m b:Nat) (l:List Er),b - a<=f->a<m->m<b->b<=l.length->l.length<2000000->oc.call 227 [.iol 2 (ers l),.int .i64 a,.int .i64 m,.int .i64 b,.clo 123 []]=some (.tup [],[.lst true 2 (ers (zAt ltE f a m b l))]):=by
  intro f
  induction f with
  | zero=>intro a m b l h0 h1 h2 h3 h4;omega
  | succ f ih =>
    intro a m b l h0 h1 h2 h3 h4;obtain⟨r1,r2,r3,r4⟩:=zKo (lt:=ltE) (l:=l) h1 h2;refine qA rfl zSl rfl rfl rfl (by simp;rfl) (by simp;rfl) ?_;refine wa_ (wa_ (zB (wM (h:=wM (h:=w_ ?_)))));refine b_ (hv:=jZ (c:=m - a) (by omega) (by omega)) (h:=?_);refine w_ (bE (h:=nE (h:=zA ?_)));refine c_ (h1:=?_) (h2:=?_)
    rotate_right 1
    focus
     intro c1
     first
     | exact dn c1
     | (have d1:=c1;try simp at d1
        have e1:¬m - a=1:=(by simp at c1;omega);refine zC ?_)
    rotate_right 1
    focus
     intro c1
     first
     | exact dn c1
     | (have d1:=c1;try simp at d1
        have e1:m - a=1:=(by simp at c1;omega);obtain⟨q1,q2,_⟩:=zDx (p:=fun h=>ltE (nth l h) (nth l a)) m b (by omega);refine wa_ (zB (wM (h:=W3 (h:=nE (h:=zA (wa_ (zB (wM (h:=W3 (h:=nE (h:=zA ?_)))))))))));refine wa_ (zG ?_);refine qH (qKw a l.length l h4 rfl (by omega) (m,b) ⟨by simp only;omega,by simp only;omega⟩ _ (by simp[zH])) ?_;refine zS (zA (wa_ (wa_ (zB (wM (h:=W3 (h:=nE (h:=zA (zG ?_)))))))));refine qH (qJ6 (hlf (fun h=>ltE (nth l h) (nth l a)) m b) l.length h4 (by omega) (by omega) (a,l) ⟨by simp only;omega,rfl⟩ _ (by simp[zH])) ?_;refine zS (zA (zF ?_)))
    all_goals first
    | refine zK ?_
    | (refine zA ?_
       refine wa_ (wa_ (zB (wM (h:=wM (h:=w_ ?_)))));refine b_ (hv:=jZ (c:=b - m) (by omega) (by omega)) (h:=?_);refine w_ (bE (h:=nE (h:=zA ?_)));refine c_ (h1:=?_) (h2:=?_)
       rotate_right 1
       focus
        intro c2
        first
        | exact dn c2
        | (have d2:=c2;try simp at d2
           have e2:¬b - m=1:=(by simp at c2;omega);refine zC ?_)
       rotate_right 1
       focus
        intro c2
        first
        | exact dn c2
        | (have d2:=c2;try simp at d2
           have e2:b - m=1:=(by simp at c2;omega);obtain⟨q1,q2,_⟩:=zDx (p:=fun h=>!ltE (nth l m) (nth l h)) a m (by omega);refine wa_ (zB (wM (h:=W3 (h:=nE (h:=zA (wa_ (zB (wM (h:=W3 (h:=nE (h:=zA ?_)))))))))));refine wa_ (zG ?_);refine qH (qDf m l.length l h4 rfl (by omega) (a,m) ⟨by simp only;omega,by simp only;omega⟩ _ (by simp[zH])) ?_;refine zS (zA (wa_ (wa_ (zB (wM (h:=W3 (h:=nE (h:=zA (zG ?_)))))))));refine qH (qEu (hlf (fun h=>!ltE (nth l m) (nth l h)) a m) l.length h4 (m,l) ⟨by simp only;omega,by simp only;omega,rfl⟩ _ (by simp[zH])) ?_;refine zS (zA (zF ?_)))
       all_goals first
       | refine zK ?_
       | (refine zA ?_
          refine wa_ (zB (wM (h:=wM (h:=w_ ?_))));refine b_ (hv:=yF (c:=a+b) (by simp) (by omega)) (h:=?_);refine w_ ?_;refine cvN (c:=a+b) (hc:=zKg (by omega)) (h:=?_);refine w_ ?_;refine sh (hv:=shr1) (h:=?_);refine w_ ?_;refine cvN (c:=(a+b) / 2) (hc:=zDu (by omega)) (h:=?_);refine W3 (h:=nE (h:=zA (wa_ (zB (wM (h:=wM (h:=w_ ?_)))))));refine b_ (hv:=yF (c:=(a+b) / 2+m) (by simp) (by omega)) (h:=?_);refine W3 (h:=nE (h:=zA (wa_ (zB (W3 (h:=W3 (h:=nE (h:=zA (wa_ (wa_ (zB ?_)))))))))));refine wM (h:=wM (h:=w_ (b_ (h:=nE (h:=zA ?_)))));refine c_ (h1:=?_) (h2:=?_)
          rotate_right 1
          focus
           intro c3
           first
           | exact dn c3
           | (have d3:=c3;try simp at d3
              have e3:¬(a+b) / 2<m:=(by simp at c3;omega);obtain⟨i0,j0,hi0,hj0,hd⟩:∃i j:Nat,i=a/\j=m/\((a+b) / 2<m/\i=(a+b) / 2+m - b/\j=(a+b) / 2\/¬(a+b) / 2<m/\i=a/\j=m):=⟨_,_,rfl,rfl,.inr ⟨e3,rfl,rfl⟩⟩;refine wa_ (zB (wM (h:=W3 (h:=nE (h:=zA (zB (wM (h:=W3 (h:=nE (h:=?_)))))))))))
          rotate_right 1
          focus
           intro c3
           first
           | exact dn c3
           | (have d3:=c3;try simp at d3
              have e3:(a+b) / 2<m:=(by simp at c3;omega);obtain⟨i0,j0,hi0,hj0,hd⟩:∃i j:Nat,i=(a+b) / 2+m - b/\j=(a+b) / 2/\((a+b) / 2<m/\i=(a+b) / 2+m - b/\j=(a+b) / 2\/¬(a+b) / 2<m/\i=a/\j=m):=⟨_,_,rfl,rfl,.inl ⟨e3,rfl,rfl⟩⟩;refine wa_ (zB (wM (h:=wM (h:=w_ ?_))));refine b_ (hv:=jZ (c:=(a+b) / 2+m - b) (by omega) (by omega)) (h:=?_);refine W3 (h:=nE (h:=zA (zB (wM (h:=W3 (h:=nE (h:=?_))))))))
          all_goals first
          | (refine zA ?_
             refine wa_ (zB (wM (h:=w_ ?_)));refine b_ (hv:=jZ (c:=(a+b) / 2+m - 1) (by omega) (by omega)) (h:=?_);refine W3 (h:=nE (h:=zA (wa_ (zG ?_))));refine qH (qDd a m b l.length l h4 rfl h1 h2 h3 i0 j0 hd _ (by simp[zH,hi0,hj0])) ?_;refine zS (zA (wa_ (zB (wM (h:=wM (h:=w_ ?_))))));refine b_ (hv:=jZ (c:=(a+b) / 2+m - kH ltE a m b l) (by omega) (by omega)) (h:=?_);refine W3 (h:=nE (h:=zA (wa_ (wa_ (zB (wM (h:=wM (h:=w_ (b_ (h:=wM (h:=?_)))))))))));refine gw_ (h1:=?_) (h2:=?_)
             rotate_right 1
             focus
              intro c4
              first
              | exact dn c4
              | (have d4:=c4;try simp at d4
                 refine go_ (h:=go_ (h:=go_ (h:=?_))))
             rotate_right 1
             focus
              intro c4
              first
              | exact dn c4
              | (have d4:=c4;try simp at d4
                 refine g_ (h:=wM (h:=g_ (h:=wM (h:=g_ (h:=w_ (b_ (h:=?_))))))))
             all_goals
              refine w_ (pk (h:=nE (h:=?_)))
             all_goals first
             | (refine zA ?_
                refine c_ (h1:=?_) (h2:=?_)
                rotate_right 1
                focus
                 intro c5
                 first
                 | exact dn c5
                 | (have d5:=c5;try simp at d5
                    have e5:¬(kH ltE a m b l<m/\m<(a+b) / 2+m - kH ltE a m b l):=(by first|omega|(simp at c4;omega)|(simp at c5;omega));have hcut:zKj (kH ltE a m b l) m ((a+b) / 2) l=l:=(by unfold zKj;rw[if_neg e5]);refine zC ?_)
                rotate_right 1
                focus
                 intro c5
                 first
                 | exact dn c5
                 | (have d5:=c5;try simp at d5
                    have e5:kH ltE a m b l<m/\m<(a+b) / 2+m - kH ltE a m b l:=(by simp at c5;omega);have hlr:=(qAr (m:=m) (m - kH ltE a m b l) ((a+b) / 2+m - kH ltE a m b l - m) l (by omega) (by omega)).1.length_eq;have hcut:zKj (kH ltE a m b l) m ((a+b) / 2) l=rot m (m - kH ltE a m b l) ((a+b) / 2+m - kH ltE a m b l - m) l:=(by unfold zKj;rw[if_pos e5]);refine zB (wM (h:=wM (h:=wM (h:=wM (h:=wM (h:=w_ ?_))))));refine cI (hc:=qC8 (kH ltE a m b l) m ((a+b) / 2+m - kH ltE a m b l) l h4 (by omega) (by omega) (by omega)) (hal:=yR hlr.symm) (h:=?_);refine nE (h:=?_)))
             all_goals first
             | (refine zA ?_
                refine wa_ (wa_ (zB (wM (h:=wM (h:=w_ (b_ (h:=wM (h:=?_))))))));refine gw_ (h1:=?_) (h2:=?_)
                rotate_right 1
                focus
                 intro c6
                 first
                 | exact dn c6
                 | (have d6:=c6;try simp at d6
                    refine go_ (h:=go_ (h:=go_ (h:=?_))))
                rotate_right 1
                focus
                 intro c6
                 first
                 | exact dn c6
                 | (have d6:=c6;try simp at d6
                    refine g_ (h:=wM (h:=g_ (h:=wM (h:=g_ (h:=w_ (b_ (h:=?_))))))))
                all_goals
                 refine w_ (pk (h:=nE (h:=?_)))
                all_goals first
                | (refine zA ?_
                   refine c_ (h1:=?_) (h2:=?_)
                   rotate_right 1
                   focus
                    intro c7
                    first
                    | exact dn c7
                    | (have d7:=c7;try simp at d7
                       have e7:¬(a<kH ltE a m b l/\kH ltE a m b l<(a+b) / 2):=(by first|omega|(simp at c6;omega)|(simp at c7;omega));have h12:(if a<kH ltE a m b l/\kH ltE a m b l<(a+b) / 2 then zAt ltE f a (kH ltE a m b l) ((a+b) / 2) (zKj (kH ltE a m b l) m ((a+b) / 2) l) else zKj (kH ltE a m b l) m ((a+b) / 2) l)=zKj (kH ltE a m b l) m ((a+b) / 2) l:=if_neg e7;rw[hcut] at h12;refine zC ?_)
                   rotate_right 1
                   focus
                    intro c7
                    first
                    | exact dn c7
                    | (have d7:=c7;try simp at d7
                       have e7:a<kH ltE a m b l/\kH ltE a m b l<(a+b) / 2:=(by simp at c7;omega);have hls:=jS (lt:=ltE) f a (kH ltE a m b l) ((a+b) / 2) (zKj (kH ltE a m b l) m ((a+b) / 2) l) e7.1 e7.2 (by rw[hcut];omega);have h12:(if a<kH ltE a m b l/\kH ltE a m b l<(a+b) / 2 then zAt ltE f a (kH ltE a m b l) ((a+b) / 2) (zKj (kH ltE a m b l) m ((a+b) / 2) l) else zKj (kH ltE a m b l) m ((a+b) / 2) l)=zAt ltE f a (kH ltE a m b l) ((a+b) / 2) (zKj (kH ltE a m b l) m ((a+b) / 2) l):=if_pos e7;rw[hcut] at hls h12;refine zB (wM (h:=wM (h:=wM (h:=wM (h:=wM (h:=w_ ?_))))))
                       first|refine cI (hc:=ih a (kH ltE a m b l) ((a+b) / 2) (rot m (m - kH ltE a m b l) ((a+b) / 2+m - kH ltE a m b l - m) l) (by omega) (by omega) (by omega) (by omega) (by omega)) (hal:=yR (jS f a (kH ltE a m b l) ((a+b) / 2) (rot m (m - kH ltE a m b l) ((a+b) / 2+m - kH ltE a m b l - m) l) (by omega) (by omega) (by omega)).symm) (h:=?_)|refine cI (hc:=ih a (kH ltE a m b l) ((a+b) / 2) l (by omega) (by omega) (by omega) (by omega) (by omega)) (hal:=yR (jS f a (kH ltE a m b l) ((a+b) / 2) l (by omega) (by omega) (by omega)).symm) (h:=?_)
                       refine nE (h:=?_)))
                all_goals first
                | (refine zA ?_
                   refine wa_ (zB (wM (h:=wM (h:=w_ (b_ (h:=wM (h:=?_)))))));refine gw_ (h1:=?_) (h2:=?_)
                   rotate_right 1
                   focus
                    intro c8
                    first
                    | exact dn c8
                    | (have d8:=c8;try simp at d8
                       refine go_ (h:=go_ (h:=go_ (h:=?_))))
                   rotate_right 1
                   focus
                    intro c8
                    first
                    | exact dn c8
                    | (have d8:=c8;try simp at d8
                       refine g_ (h:=wM (h:=g_ (h:=wM (h:=g_ (h:=w_ (b_ (h:=?_))))))))
                   all_goals
                    refine w_ (pk (h:=nE (h:=?_)))
                   all_goals first
                   | (refine zA ?_
                      refine c_ (h1:=?_) (h2:=?_)
                      rotate_right 1
                      focus
                       intro c9
                       first
                       | exact dn c9
                       | (have d9:=c9;try simp at d9
                          have e9:¬((a+b) / 2<(a+b) / 2+m - kH ltE a m b l/\(a+b) / 2+m - kH ltE a m b l<b):=(by first|omega|(simp at c8;omega)|(simp at c9;omega));refine zC ?_)
                      rotate_right 1
                      focus
                       intro c9
                       first
                       | exact dn c9
                       | (have d9:=c9;try simp at d9
                          have e9:(a+b) / 2<(a+b) / 2+m - kH ltE a m b l/\(a+b) / 2+m - kH ltE a m b l<b:=(by simp at c9;omega);refine zB (wM (h:=wM (h:=wM (h:=wM (h:=wM (h:=w_ ?_))))))
                          first|refine cI (hc:=ih ((a+b) / 2) ((a+b) / 2+m - kH ltE a m b l) b (zAt ltE f a (kH ltE a m b l) ((a+b) / 2) (rot m (m - kH ltE a m b l) ((a+b) / 2+m - kH ltE a m b l - m) l)) (by omega) (by omega) (by omega) (by omega) (by omega)) (hal:=yR (jS f ((a+b) / 2) ((a+b) / 2+m - kH ltE a m b l) b (zAt ltE f a (kH ltE a m b l) ((a+b) / 2) (rot m (m - kH ltE a m b l) ((a+b) / 2+m - kH ltE a m b l - m) l)) (by omega) (by omega) (by omega)).symm) (h:=?_)|refine cI (hc:=ih ((a+b) / 2) ((a+b) / 2+m - kH ltE a m b l) b (zAt ltE f a (kH ltE a m b l) ((a+b) / 2) l) (by omega) (by omega) (by omega) (by omega) (by omega)) (hal:=yR (jS f ((a+b) / 2) ((a+b) / 2+m - kH ltE a m b l) b (zAt ltE f a (kH ltE a m b l) ((a+b) / 2) l) (by omega) (by omega) (by omega)).symm) (h:=?_)|refine cI (hc:=ih ((a+b) / 2) ((a+b) / 2+m - kH ltE a m b l) b (rot m (m - kH ltE a m b l) ((a+b) / 2+m - kH ltE a m b l - m) l) (by omega) (by omega) (by omega) (by omega) (by omega)) (hal:=yR (jS f ((a+b) / 2) ((a+b) / 2+m - kH ltE a m b l) b (rot m (m - kH ltE a m b l) ((a+b) / 2+m - kH ltE a m b l - m) l) (by omega) (by omega) (by omega)).symm) (h:=?_)|refine cI (hc:=ih ((a+b) / 2) ((a+b) / 2+m - kH ltE a m b l) b l (by omega) (by omega) (by omega) (by omega) (by omega)) (hal:=yR (jS f ((a+b) / 2) ((a+b) / 2+m - kH ltE a m b l) b l (by omega) (by omega) (by omega)).symm) (h:=?_)
                          refine nE (h:=?_))))))))
    all_goals (refine qX (hr:=zM) (h:=?_);(focus (first|(rw[zQ0 e1];rfl)|(simp[zQ0 e1];done)|(rw[zPt e1 e2];rfl)|(simp[zPt e1 e2];done)|(simp only[zAt,if_neg e1,if_neg e2,hcut];rw[h12];first|(rw[if_pos e9]<;>first|rfl|(simp;done))|(rw[if_neg e9]<;>first|rfl|(simp;done))))))
theorem zWv {g:Nat->List Er->List Er} {w n f a:Nat} {l:List Er} (h:a+w<=n) (hf:n<=f+a) (hw:1<=w):blk g w n f a l=blk g w n (f - 1) (a+w) (g a l):=by
 obtain⟨k,rfl⟩:∃k,f=k+1:=⟨f - 1,by omega⟩
 conv=>lhs;unfold blk
 rw[if_pos h];rfl
theorem zUf {g:Nat->List Er->List Er} {w n f a:Nat} {l:List Er} (h:¬a+w<=n):blk g w n f a l=(a,l):=by
 cases f with
 | zero=>rfl
 | succ k=>unfold blk;rw[if_neg h]
theorem zH3 {g:Nat->List Er->List Er} {w n:Nat} (hw:1<=w) (hg:∀a l,a+w<=n->l.length=n->(g a l).length=n):∀(f a:Nat) (l:List Er),n<=f+a->a<=n->l.length=n->(blk g w n f a l).1<=n/\n<(blk g w n f a l).1+w/\(blk g w n f a l).2.length=n
 | 0,a,l,h1,h2,h3=>⟨h2,by show n<a+w;omega,h3⟩
 | f+1,a,l,h1,h2,h3=>by
  unfold blk;split
  ·rename_i h
   exact zH3 hw hg f (a+w) _ (by omega) h (hg a l h h3)
  ·rename_i h
   exact⟨h2,by show n<a+w;omega,h3⟩
abbrev qE3:Nat->List Er->List Er:=fun a l=>ins ltE a (a+20) l
abbrev zKm (w:Nat):Nat->List Er->List Er:=fun a l=>zAt ltE (2 * w) a (a+w) (a+2 * w) l
theorem qD2 (N:Nat) (hN:N<2000000):∀x:Nat×Nat×(List Er),(N<=x.1+x.2.1/\x.2.1<=N/\x.2.2.length=N)->∀s,zH 3 (some [0,1,2,6,7,8]) s=⟨[(0,.ref 0 0 N),(1,.int .i64 N),(2,.clo 123 []),(6,.int .i64 20),(7,.int .i64 x.2.1),(8,.int .i64 (x.2.1+20:Nat))],[(0,⟨false,true,2,ers x.2.2,0⟩)],3⟩ ->
 oc.loop 184 2 s=some (.exit 0,⟨[(0,.ref 0 0 N),(1,.int .i64 N),(2,.clo 123 []),(6,.int .i64 20),(7,.int .i64 ((blk qE3 20 N x.1 x.2.1 x.2.2).1:Nat))],[(0,⟨false,true,2,ers (blk qE3 20 N x.1 x.2.1 x.2.2).2,0⟩)],3⟩):=by
 refine zV (σ:=Nat×Nat×(List Er)) (fun x=>x.1) _ (fun x=>⟨[(0,.ref 0 0 N),(1,.int .i64 N),(2,.clo 123 []),(6,.int .i64 20),(7,.int .i64 x.2.1),(8,.int .i64 (x.2.1+20:Nat))],[(0,⟨false,true,2,ers x.2.2,0⟩)],3⟩) _ ?_;rintro⟨f,a,r⟩ hi ih s hs;simp only at hi;refine qD zYq rfl rfl hs ?_;obtain⟨hi1,hi2,hi3⟩:=hi;refine wa_ (wa_ (zB (wM (h:=wM (h:=w_ (b_ (h:=nE (h:=zA ?_))))))));refine c_ (h1:=?_) (h2:=?_)
 rotate_right 1
 focus
  intro c1;first|exact dn c1|(
   have d1:=c1;try simp at d1
   have hab:¬a+20<=N:=(by simp at c1;omega);refine zW ?_)
 rotate_right 1
 focus
  intro c1;first|exact dn c1|(
   have d1:=c1;try simp at d1
   have hab:a+20<=N:=(by simp at c1;omega);have hil:=(zM8 zO4 (a:=a) (b:=a+20) (l:=r) (by omega)).1.len;refine zC ?_)
 all_goals first|refine zR ?_|(
  refine zA ?_;refine zG (wa_ (zB (wM (h:=wM (h:=wM (h:=wM (h:=w_ ?_)))))));refine cI (hc:=zPk a (a+20) r (by omega) (by omega) (by omega)) (hal:=yR hil.symm) (h:=?_);refine nE (h:=zA (wa_ (zB (wM (h:=W3 (h:=nE (h:=zA (zB (wM (h:=wM (h:=w_ ?_)))))))))));refine b_ (hv:=yF (c:=a+20+20) (by simp) (by omega)) (h:=?_);refine W3 (h:=nE (h:=zI ?_)))
 all_goals first
 | (refine(ih ((f - 1,a+20,ins ltE a (a+20) r)) (⟨by simp only;omega,by simp only;omega,by simp only;omega⟩) ?_ _ ?_).trans ?_;(focus (first|omega|(simp;done)|(simp;omega)));(focus (simp[zH,zOx];done));(focus (rw[zWv (f:=f) (a:=a) (l:=r) hab hi1 (by omega)])))
 | (apply zP (ex:=(Ext.exit 0)) 3 (some [0,1,2,6,7]);(focus (simp[zH];rfl));(focus (rw[zUf hab])))
theorem qDm (w N:Nat) (hN:N<2000000) (hw:1<=w) (hw2:w<4000100):∀x:Nat×Nat×(List Er),(N<=x.1+x.2.1/\x.2.1<=N/\x.2.2.length=N)->∀s,zH 3 (some [0,1,2,6,7,8]) s=⟨[(0,.ref 0 0 N),(1,.int .i64 N),(2,.clo 123 []),(6,.int .i64 w),(7,.int .i64 x.2.1),(8,.int .i64 (x.2.1+2 * w:Nat))],[(0,⟨false,true,2,ers x.2.2,0⟩)],3⟩ ->
 oc.loop 184 9 s=some (.exit 4,⟨[(0,.ref 0 0 N),(1,.int .i64 N),(2,.clo 123 []),(6,.int .i64 w),(7,.int .i64 ((blk (zKm w) (2 * w) N x.1 x.2.1 x.2.2).1:Nat))],[(0,⟨false,true,2,ers (blk (zKm w) (2 * w) N x.1 x.2.1 x.2.2).2,0⟩)],3⟩):=by
 refine zV (σ:=Nat×Nat×(List Er)) (fun x=>x.1) _ (fun x=>⟨[(0,.ref 0 0 N),(1,.int .i64 N),(2,.clo 123 []),(6,.int .i64 w),(7,.int .i64 x.2.1),(8,.int .i64 (x.2.1+2 * w:Nat))],[(0,⟨false,true,2,ers x.2.2,0⟩)],3⟩) _ ?_;rintro⟨f,a,r⟩ hi ih s hs;simp only at hi;refine qD zYq rfl rfl hs ?_;obtain⟨hi1,hi2,hi3⟩:=hi;refine wa_ (wa_ (zB (wM (h:=wM (h:=w_ (b_ (h:=nE (h:=zA ?_))))))));refine c_ (h1:=?_) (h2:=?_)
 rotate_right 1
 focus
  intro c1;first|exact dn c1|(
   have d1:=c1;try simp at d1
   have hab:¬a+2 * w<=N:=(by simp at c1;omega);refine zW ?_)
 rotate_right 1
 focus
  intro c1;first|exact dn c1|(
   have d1:=c1;try simp at d1
   have hab:a+2 * w<=N:=(by simp at c1;omega);have hil:=jS (lt:=ltE) (2 * w) a (a+w) (a+2 * w) r (by omega) (by omega) (by omega);refine zC ?_)
 all_goals first|refine zR ?_|(
  refine zA ?_;refine zG (wa_ (zB (wM (h:=wM (h:=wM (h:=wM (h:=w_ ?_)))))));refine b_ (hv:=yF (c:=a+w) (by simp) (by omega)) (h:=?_);refine wM (h:=wM (h:=w_ ?_));refine cI (hc:=zQr (2 * w) a (a+w) (a+2 * w) r (by omega) (by omega) (by omega) (by omega) (by omega)) (hal:=yR hil.symm) (h:=?_);refine nE (h:=zA (wa_ (zB (wM (h:=W3 (h:=nE (h:=zA (zB (wM (h:=wM (h:=w_ ?_)))))))))));refine b_ (hv:=zVc (c:=2 * w) (by simp) (by omega)) (h:=?_);refine w_ ?_;refine b_ (hv:=yF (c:=a+2 * w+2 * w) (by simp) (by omega)) (h:=?_);refine W3 (h:=nE (h:=zI ?_)))
 all_goals first
 | (refine(ih ((f - 1,a+2 * w,zAt ltE (2 * w) a (a+w) (a+2 * w) r)) (⟨by simp only;omega,by simp only;omega,by simp only;omega⟩) ?_ _ ?_).trans ?_;(focus (first|omega|(simp;done)|(simp;omega)));(focus (simp[zH,zOx];done));(focus (rw[zWv (f:=f) (a:=a) (l:=r) hab hi1 (by omega)])))
 | (apply zP (ex:=(Ext.exit 4)) 3 (some [0,1,2,6,7]);(focus (simp[zH];rfl));(focus (rw[zUf hab])))
theorem zR1 {n f w:Nat} {l:List Er} (h:w<n) (hf:n<=f+w):zVx ltE n f w l=zVx ltE n (f - 1) (2 * w) (mrg ltE w n l):=by
 obtain⟨k,rfl⟩:∃k,f=k+1:=⟨f - 1,by omega⟩
 conv=>lhs;unfold zVx
 rw[if_pos h];rfl
theorem zYp {n f w:Nat} {l:List Er} (h:¬w<n):zVx ltE n f w l=l:=by
 cases f with
 | zero=>rfl
 | succ k=>unfold zVx;rw[if_neg h]
theorem zX2 {w n:Nat} {l:List Er} (h:(blk (zKm w) (2 * w) n n 0 l).1+w<n):mrg ltE w n l=zAt ltE (2 * w) (blk (zKm w) (2 * w) n n 0 l).1 ((blk (zKm w) (2 * w) n n 0 l).1+w) n (blk (zKm w) (2 * w) n n 0 l).2:=by
 unfold mrg;rw[if_pos h]
theorem zUd {w n:Nat} {l:List Er} (h:¬(blk (zKm w) (2 * w) n n 0 l).1+w<n):mrg ltE w n l=(blk (zKm w) (2 * w) n n 0 l).2:=by
 unfold mrg;rw[if_neg h]
theorem qDv (N:Nat) (hN:N<2000000):∀x:Nat×Nat×(List Er),(N<=x.1+x.2.1/\1<=x.2.1/\x.2.1<4000100/\x.2.2.length=N)->∀s,zH 3 (some [0,1,2,6]) s=⟨[(0,.ref 0 0 N),(1,.int .i64 N),(2,.clo 123 []),(6,.int .i64 x.2.1)],[(0,⟨false,true,2,ers x.2.2,0⟩)],3⟩ ->
 oc.loop 184 7 s=some (.exit 2,⟨[],[(0,⟨false,true,2,ers (zVx ltE N x.1 x.2.1 x.2.2),0⟩)],3⟩):=by
 refine zV (σ:=Nat×Nat×(List Er)) (fun x=>x.1) _ (fun x=>⟨[(0,.ref 0 0 N),(1,.int .i64 N),(2,.clo 123 []),(6,.int .i64 x.2.1)],[(0,⟨false,true,2,ers x.2.2,0⟩)],3⟩) _ ?_;rintro⟨f,w,r⟩ hi ih s hs;simp only at hi;refine qD zYq rfl rfl hs ?_;obtain⟨hi1,hi2,hi2',hi3⟩:=hi;refine wa_ (wa_ (zB (wM (h:=wM (h:=w_ (b_ (h:=nE (h:=zA ?_))))))));refine c_ (h1:=?_) (h2:=?_)
 rotate_right 1
 focus
  intro c1;first|exact dn c1|(
   have d1:=c1;try simp at d1
   have hab:¬w<N:=(by simp at c1;omega);refine zW ?_)
 rotate_right 1
 focus
  intro c1;first|exact dn c1|(
   have d1:=c1;try simp at d1
   have hab:w<N:=(by simp at c1;omega);obtain⟨b1,b2,b3⟩:=zH3 (g:=zKm w) (w:=2 * w) (n:=N) (by omega) (fun a l ha hl=>(jS (lt:=ltE) (2 * w) a (a+w) (a+2 * w) l (by omega) (by omega) (by omega)).trans hl) N 0 r (by omega) (by omega) hi3;refine zC ?_)
 all_goals first|refine zR ?_|(
  refine zA ?_;refine zG (wa_ (zB (wM (h:=w_ ?_))));refine b_ (hv:=zVc (c:=2 * w) (by simp) (by omega)) (h:=?_);refine W3 (h:=W3 (h:=nE (h:=zA (wa_ (zG ?_)))));refine qH (qDm w N hN hi2 hi2' (N,0,r) ⟨by simp,by simp,hi3⟩ _ (by simp[zH])) ?_;refine zS (zA (wa_ (wa_ (zB (wM (h:=wM (h:=w_ ?_)))))));refine b_ (hv:=yF (c:=(blk (zKm w) (2 * w) N N 0 r).1+w) (by simp) (by omega)) (h:=?_);refine W3 (h:=nE (h:=zA (wa_ (zB (wM (h:=wM (h:=w_ (b_ (h:=nE (h:=zA ?_))))))))));refine c_ (h1:=?_) (h2:=?_)
  rotate_right 1
  focus
   intro c2;first|exact dn c2|(
    have d2:=c2;try simp at d2
    have hcw:¬(blk (zKm w) (2 * w) N N 0 r).1+w<N:=(by simp at c2;omega);have hml:(mrg ltE w N r).length=N:=(by rw[zUd hcw];omega);refine zC ?_)
  rotate_right 1
  focus
   intro c2;first|exact dn c2|(
    have d2:=c2;try simp at d2
    have hcw:(blk (zKm w) (2 * w) N N 0 r).1+w<N:=(by simp at c2;omega);have hil:=jS (lt:=ltE) (2 * w) (blk (zKm w) (2 * w) N N 0 r).1 ((blk (zKm w) (2 * w) N N 0 r).1+w) N (blk (zKm w) (2 * w) N N 0 r).2 (by omega) (by omega) (by omega);have hml:(mrg ltE w N r).length=N:=(by rw[zX2 hcw];omega);refine zB (wM (h:=wM (h:=wM (h:=wM (h:=wM (h:=w_ ?_))))));refine cI (hc:=zQr (2 * w) (blk (zKm w) (2 * w) N N 0 r).1 ((blk (zKm w) (2 * w) N N 0 r).1+w) N (blk (zKm w) (2 * w) N N 0 r).2 (by omega) (by omega) (by omega) (by omega) (by omega)) (hal:=yR hil.symm) (h:=?_);refine nE (h:=?_))
  all_goals first
  | (
   refine zA ?_;refine zB (wM (h:=w_ ?_));refine b_ (hv:=zVc (c:=2 * w) (by push_cast;omega) (by omega)) (h:=?_);refine W3 (h:=nE (h:=?_)))
  all_goals refine zI ?_)
 all_goals first
 | (refine(ih ((f - 1,2 * w,mrg ltE w N r)) (⟨by simp only;omega,by simp only;omega,by simp only;omega,by simp only;omega⟩) ?_ _ ?_).trans ?_;(focus (first|omega|(simp;done)|(simp;omega)));(focus (simp[zH,zOx,zX2 hcw];done));(focus (rw[zR1 (f:=f) (w:=w) (l:=r) hab hi1])))
 | (refine(ih ((f - 1,2 * w,mrg ltE w N r)) (⟨by simp only;omega,by simp only;omega,by simp only;omega,by simp only;omega⟩) ?_ _ ?_).trans ?_;(focus (first|omega|(simp;done)|(simp;omega)));(focus (simp[zH,zOx,zUd hcw];done));(focus (rw[zR1 (f:=f) (w:=w) (l:=r) hab hi1])))
 | (apply zP (ex:=(Ext.exit 2)) 3 (some []);(focus (simp[zH];rfl));(focus (rw[zYp hab])))
theorem zXv (l:List Er) (hN:l.length<2000000):oc.call 184 [.iol 2 (ers l),.int .i64 l.length,.clo 123 []]=some (.tup [],[.lst true 2 (ers (stb ltE l))]):=by
 refine qA rfl zYq rfl rfl rfl (by simp;rfl) (by simp;rfl) ?_;obtain⟨b1,b2,b3⟩:=zH3 (g:=qE3) (w:=20) (n:=l.length) (by omega) (fun a r ha hl=>(zM8 zO4 (a:=a) (b:=a+20) (l:=r) (by omega)).1.len.trans hl) l.length 0 l (by omega) (by omega) rfl;have hil:=(zM8 zO4 (a:=(blk qE3 20 l.length l.length 0 l).1) (b:=l.length) (l:=(blk qE3 20 l.length l.length 0 l).2) (by omega)).1.len;refine wa_ (zB (W3 (h:=nE (h:=zA (wa_ (zB (wM (h:=W3 (h:=W3 (h:=nE (h:=zA ?_)))))))))));refine wa_ (zG ?_);refine qH (qD2 l.length hN (l.length,0,l) ⟨by simp,by simp,rfl⟩ _ (by simp[zH])) ?_;refine zS (zA (wa_ (zB (wM (h:=wM (h:=wM (h:=wM (h:=w_ ?_))))))));refine cI (hc:=zPk (blk qE3 20 l.length l.length 0 l).1 l.length (blk qE3 20 l.length l.length 0 l).2 (by omega) (by omega) (by omega)) (hal:=yR hil.symm) (h:=?_);refine nE (h:=zA (zG ?_));refine qH (qDv l.length hN (l.length,20,qHo ltE l.length l) ⟨by simp only;omega,by simp,by simp,hil.trans b3⟩ _ (by simp[zH,qHo])) ?_;refine zS ?_
 all_goals (refine qX (hr:=zM) (h:=?_);(focus (simp[stb])))
theorem qA9 (l:List Er) (hN:l.length<2000000):oc.call 122 [.iol 2 (ers l),.clo 123 []]=some (.tup [],[.lst true 2 (ers (stb ltE l))]):=by
 refine qA rfl cd122 rfl rfl rfl (by simp;rfl) (by simp;rfl) ?_;refine zB (wM (h:=wM (h:=w_ (le (h:=wM (h:=w_ ?_))))));refine cI (hc:=zXv l hN) (hal:=yR (zT9 zO4 l).1.length_eq.symm) (h:=?_);refine nE (h:=?_)
 all_goals (refine qX (hr:=zM) (h:=?_);(focus (simp)))
end Go.Proofs.YtbcgenkegnmkhaaGreat.Ev
namespace Go.Proofs.YtbcgenkegnmkhaaGreat.Ev
open Go
set_option maxRecDepth 100000
set_option linter.unusedSimpArgs false
set_option linter.unusedVariables false
set_option maxHeartbeats 2000000
def yG (t:Bool) (l:List (List Et)):List V:=l.map fun x=>.lst t (lz t 2) (ets t x)
@[simp] theorem etss_len (t:Bool) (l:List (List Et)):(yG t l).length=l.length:=by simp[yG]
@[simp] theorem etss_nil (t:Bool):yG t []=[]:=rfl
@[simp] theorem qIx (t:Bool) (x:List Et) (l:List (List Et)):yG t (x::l) = .lst t (lz t 2) (ets t x)::yG t l:=rfl
@[simp] theorem qIo (t:Bool) (l m:List (List Et)):yG t l++yG t m=yG t (l++m):=by simp[yG]
@[simp] theorem qGk (l:List (List Et)) (x:List Et):yG true l++[.lst true 2 (ets true x)]=yG true (l++[x]):=by simp[yG]
@[simp] theorem qH3 (l:List (List Et)) (x:List Et):yG false l++[.lst false 0 (ets false x)]=yG false (l++[x]):=by simp[yG]
@[simp] theorem qIc (l:List (List Et)) (i:Nat) (x:List Et):(yG true l).set i (.lst true 2 (ets true x))=yG true (l.set i x):=by simp[yG,List.map_set]
@[simp] theorem qLd (l:List (List Et)) (i:Nat) (x:List Et):(yG false l).set i (.lst false 0 (ets false x))=yG false (l.set i x):=by simp[yG,List.map_set]
theorem zLw (m:Nat):List.replicate m (V.lst true 2 [])=yG true (List.replicate m []):=by simp[yG]
theorem zFu {t:Bool} {l:List (List Et)} {i:Nat} {x:List Et} (h:l[i]? = some x):(yG t l)[i]? = some (.lst t (lz t 2) (ets t x)):=by simp[yG,h]
theorem qEo {t:Bool} {l:List (List Et)} {i:Nat} (h:i<l.length):(yG t l)[(i:Int).toNat]? = some (.lst t (lz t 2) (ets t l[i])):=zFu (by simp[h])
theorem zAn {t:Bool} {l:List (List Et)} {i:Nat} (h:i<l.length):∃x,l[i]? = some x/\l.drop i=x::l.drop (i+1)/\(yG t l)[(i:Int).toNat]? = some (.lst t (lz t 2) (ets t x)) :=
 ⟨l[i],by simp[h],List.drop_eq_getElem_cons h,qEo h⟩
@[simp] theorem qMj (t:Bool) (n:Nat) (l:List (List Et)):(yG t l).take n=yG t (l.take n):=by simp[yG,List.map_take]
@[simp] theorem qMf (t:Bool) (n:Nat) (l:List (List Et)):(yG t l).drop n=yG t (l.drop n):=by simp[yG,List.map_drop]
@[simp] theorem qEe (t:Bool) (l:List (List Et)):V.shareL (yG t l)=yG false l:=by
 induction l with
 | nil=>rfl
 | cons x l ih=>simp[V.shareL,ih,yV]
@[simp] theorem qHh (l:List (List Et)):V.tidyL (yG true l)=true:=by
 induction l with
 | nil=>rfl
 | cons x l ih=>simp[V.tidyL,V.tidy,ih]
theorem zC4 {α β:Type} {f:α->V} {g:β->V} (hf:∀x y,(f x).alike (g y)=true):∀{a:List α} {b:List β},V.alikeL (a.map f) (b.map g)=decide (a.length=b.length)
 | [],[]=>rfl
 | [],_::_=>by simp[V.alikeL]
 | _::_,[]=>by simp[V.alikeL]
 | x::a,y::b=>by simp only[List.map_cons,V.alikeL,hf,Bool.true_and,zC4 hf (a:=a) (b:=b),List.length_cons,Nat.add_right_cancel_iff]
@[simp] theorem qGa (t u:Bool) (a b:List (List Et)):V.alikeL (yG t a) (yG u b)=decide (a.length=b.length):=zC4 (fun _ _=>rfl)
def zCj (t:Bool) (l:List (List Fr)):List V:=l.map fun x=>.lst t (lz t 6) (frs t x)
@[simp] theorem frss_len (t:Bool) (l:List (List Fr)):(zCj t l).length=l.length:=by simp[zCj]
@[simp] theorem frss_nil (t:Bool):zCj t []=[]:=rfl
@[simp] theorem qJ7 (t:Bool) (x:List Fr) (l:List (List Fr)):zCj t (x::l) = .lst t (lz t 6) (frs t x)::zCj t l:=rfl
@[simp] theorem qNf (t:Bool) (l m:List (List Fr)):zCj t l++zCj t m=zCj t (l++m):=by simp[zCj]
@[simp] theorem qGl (l:List (List Fr)) (x:List Fr):zCj true l++[.lst true 6 (frs true x)]=zCj true (l++[x]):=by simp[zCj]
@[simp] theorem qHf (l:List (List Fr)) (x:List Fr):zCj false l++[.lst false 0 (frs false x)]=zCj false (l++[x]):=by simp[zCj]
@[simp] theorem qN9 (l:List (List Fr)) (i:Nat) (x:List Fr):(zCj true l).set i (.lst true 6 (frs true x))=zCj true (l.set i x):=by simp[zCj,List.map_set]
@[simp] theorem qM0 (l:List (List Fr)) (i:Nat) (x:List Fr):(zCj false l).set i (.lst false 0 (frs false x))=zCj false (l.set i x):=by simp[zCj,List.map_set]
@[simp] theorem qJs (t:Bool) (n:Nat) (l:List (List Fr)):(zCj t l).take n=zCj t (l.take n):=by simp[zCj,List.map_take]
@[simp] theorem qKf (t:Bool) (n:Nat) (l:List (List Fr)):(zCj t l).drop n=zCj t (l.drop n):=by simp[zCj,List.map_drop]
@[simp] theorem qFj (t:Bool) (l:List (List Fr)):V.shareL (zCj t l)=zCj false l:=by
 induction l with
 | nil=>rfl
 | cons x l ih=>simp[V.shareL,ih,yV]
@[simp] theorem qGj (l:List (List Fr)):V.tidyL (zCj true l)=true:=by
 induction l with
 | nil=>rfl
 | cons x l ih=>simp[V.tidyL,V.tidy,ih]
@[simp] theorem qGm (t u:Bool) (a b:List (List Fr)):V.alikeL (zCj t a) (zCj u b)=decide (a.length=b.length):=zC4 (fun _ _=>rfl)
theorem xB {α:Type} {f:α->V} {k:Nat} (h:∀x,(f x).cells=k):∀l:List α,V.cellsAll k (l.map f)=true
 | []=>rfl
 | x::l=>by simp only[List.map_cons,V.cellsAll,List.all_cons,h,decide_true,Bool.true_and];exact xB h l
@[simp] theorem zXp (l:List Int):V.cellsAll 1 (ints l)=true:=xB (f:=.int .i64) (fun _=>rfl) l
@[simp] theorem qB8 (t:Bool) (l:List Et):V.cellsAll 2 (ets t l)=true:=xB (f:=Et.v t) (fun _=>rfl) l
@[simp] theorem qBg (l:List Ct):V.cellsAll 3 (cts l)=true:=xB (f:=Ct.v) (fun _=>rfl) l
@[simp] theorem qAv (t:Bool) (l:List Fr):V.cellsAll 6 (frs t l)=true:=xB (f:=Fr.v t) (fun _=>rfl) l
@[simp] theorem qBk (t:Bool) (s:Nat) (l:List Nd):V.cellsAll 7 (nds t s l)=true:=xB (f:=fun d:Nd=>d.v t s) (fun _=>rfl) l
theorem c1_I (l:List Int) (hl:l.length<2000000) (h:l≠[]):vW oc cf 124 [.lst false 0 (ints l)]=some (.lst true 1 (ints l),[]):=by
 refine zCx qBy rfl rfl rfl (by first|(simp;rfl)|rfl) (by first|(simp;rfl)|rfl) ?_;have hne:ints l≠[]:=by simpa [ints] using h
 refine wa_ (zB (w_ (aN (h:=nE (h:=zA (wa_ (wa_ (zB (wM (h:=w_ (bN (h:=nE (h:=zA ?_)))))))))))));refine c_ (h1:=?_) (h2:=?_)
 rotate_right 1
 focus
  intro c1;refine zC ?_
 rotate_right 1
 focus
  intro c1;refine wa_ (zB (w_ (aN (h:=nE (h:=zA (zF ?_))))))
 all_goals first|refine zK ?_|(
  refine zA ?_;refine wa_ (zB (w_ (bs (h:=wM (h:=w_ (ap (h:=W3 (h:=nE (h:=zA (zF ?_)))))))))))
 all_goals (refine qX (hr:=(zL rfl zM)) (h:=?_);(focus (first|(simp_all;done)|(simp_all<;>omega)|(simp_all<;>split<;>simp_all<;>omega))))
theorem c2_I :vW oc cf 124 [.emp true]=some (.lst true 1 [],[]):=by
 refine zCx qBy rfl rfl rfl (by first|(simp;rfl)|rfl) (by first|(simp;rfl)|rfl) ?_;refine wa_ (zB (w_ (aN (h:=nE (h:=zA (wa_ (wa_ (zB (wM (h:=w_ (bN (h:=nE (h:=zA ?_)))))))))))));refine c_ (h1:=?_) (h2:=?_)
 rotate_right 1
 focus
  intro c1;first|exact dn c1|(
   have d1:=c1;try simp at d1
   refine zC ?_)
 rotate_right 1
 focus
  intro c1;first|exact dn c1|(
   have d1:=c1;try simp at d1
   refine wa_ (zB (w_ (aN (h:=nE (h:=zA (zF ?_)))))))
 all_goals first|refine zK ?_|(
  refine zA ?_;refine wa_ (zB (w_ (bs (h:=wM (h:=w_ (ap (h:=W3 (h:=nE (h:=zA (zF ?_)))))))))))
 all_goals (refine qX (hr:=(zL rfl zM)) (h:=?_);(focus (first|(simp_all;done)|(simp_all<;>omega)|(simp_all<;>split<;>simp_all<;>omega))))
theorem c3_I :vW oc cf 124 [.emp false]=some (.lst true 1 [],[]):=by
 refine zCx qBy rfl rfl rfl (by first|(simp;rfl)|rfl) (by first|(simp;rfl)|rfl) ?_;refine wa_ (zB (w_ (aN (h:=nE (h:=zA (wa_ (wa_ (zB (wM (h:=w_ (bN (h:=nE (h:=zA ?_)))))))))))));refine c_ (h1:=?_) (h2:=?_)
 rotate_right 1
 focus
  intro c1;first|exact dn c1|(
   have d1:=c1;try simp at d1
   refine zC ?_)
 rotate_right 1
 focus
  intro c1;first|exact dn c1|(
   have d1:=c1;try simp at d1
   refine wa_ (zB (w_ (aN (h:=nE (h:=zA (zF ?_)))))))
 all_goals first|refine zK ?_|(
  refine zA ?_;refine wa_ (zB (w_ (bs (h:=wM (h:=w_ ?_)))));refine ap (hlen:=by decide) (h:=?_);refine W3 (h:=nE (h:=zA (zF ?_))))
 all_goals (refine qX (hr:=(zL rfl zM)) (h:=?_);(focus (first|(simp_all;done)|(simp_all<;>omega)|(simp_all<;>split<;>simp_all<;>omega))))
theorem zQe (l:List Int) (hl:l.length<2000000):oc.call 124 [.lst false 0 (ints l)]=some (.lst true 1 (ints l),[]) :=
 qJ5 rfl (fun h=>c1_I l hl (by rintro rfl;exact h rfl)) (fun h=>by have:l=[]:=(by simpa [ints] using h);subst this;exact c2_I) (fun h=>by have:l=[]:=(by simpa [ints] using h);subst this;exact c3_I)
end Go.Proofs.YtbcgenkegnmkhaaGreat.Ev
namespace Go.Proofs.YtbcgenkegnmkhaaGreat.Ev
open Go
set_option maxRecDepth 100000
set_option linter.unusedSimpArgs false
set_option linter.unusedVariables false
set_option maxHeartbeats 2000000
def zCf (t:Bool) (l:List (List Ct)):List V:=l.map fun x=>.lst t (lz t 3) (cts x)
@[simp] theorem ctss_len (t:Bool) (l:List (List Ct)):(zCf t l).length=l.length:=by simp[zCf]
@[simp] theorem ctss_nil (t:Bool):zCf t []=[]:=rfl
@[simp] theorem qN6 (t:Bool) (x:List Ct) (l:List (List Ct)):zCf t (x::l) = .lst t (lz t 3) (cts x)::zCf t l:=rfl
@[simp] theorem qJg (t:Bool) (l m:List (List Ct)):zCf t l++zCf t m=zCf t (l++m):=by simp[zCf]
@[simp] theorem qGv (l:List (List Ct)) (x:List Ct):zCf true l++[.lst true 3 (cts x)]=zCf true (l++[x]):=by simp[zCf]
@[simp] theorem qHl (l:List (List Ct)) (x:List Ct):zCf false l++[.lst false 0 (cts x)]=zCf false (l++[x]):=by simp[zCf]
@[simp] theorem qJh (l:List (List Ct)) (i:Nat) (x:List Ct):(zCf true l).set i (.lst true 3 (cts x))=zCf true (l.set i x):=by simp[zCf,List.map_set]
@[simp] theorem qKc (l:List (List Ct)) (i:Nat) (x:List Ct):(zCf false l).set i (.lst false 0 (cts x))=zCf false (l.set i x):=by simp[zCf,List.map_set]
@[simp] theorem qIf (t:Bool) (n:Nat) (l:List (List Ct)):(zCf t l).take n=zCf t (l.take n):=by simp[zCf,List.map_take]
@[simp] theorem qIt (t:Bool) (n:Nat) (l:List (List Ct)):(zCf t l).drop n=zCf t (l.drop n):=by simp[zCf,List.map_drop]
@[simp] theorem qCr (t:Bool) (l:List (List Ct)):V.shareL (zCf t l)=zCf false l:=by
 induction l with
 | nil=>rfl
 | cons x l ih=>simp[V.shareL,ih,yV]
@[simp] theorem qG7 (l:List (List Ct)):V.tidyL (zCf true l)=true:=by
 induction l with
 | nil=>rfl
 | cons x l ih=>simp[V.tidyL,V.tidy,ih]
@[simp] theorem qGt (t u:Bool) (a b:List (List Ct)):V.alikeL (zCf t a) (zCf u b)=decide (a.length=b.length):=zC4 (fun _ _=>rfl)
section
variable {id base : Nat} {e : List (Nat × V)} {o : List (Nat × Ob)} {n : Nat} {t : TypeId} {K : V->List (Nat × Ob)->Prop}
theorem caT {args:Array Operand} {ts:Array TypeId} {fo:Operand} {f g:FuncId} {q m sz:Nat} {ys:List V} {ob:Ob} {o1:List (Nat×Ob)} {id':Nat} (hx:kW e args.toList=some [.ref q 0 m,.clo g []]:=by exact rfl) (hf:opV e fo=some (.clo f []):=by exact rfl) (hB:cf.inB f=false:=by(rw[zFc];rfl)) (hmd:cf.md f=[.take]:=by(rw[zB7];rfl)) (ho:zO o q=some ob:=by exact rfl) (hb:ob.bx=false:=by rfl) (hfx:ob.fx=false:=by rfl) (hm:m=ob.xs.length:=by first|rfl|simp) (hd:kT o q=o1:=by(simp;rfl))
  (hc:oc.call f [.lst true ob.sz ob.xs,.clo g []]=some (.lst true sz ys,[])) (hid:id=id':=by((try simp);rfl)) (h:K (.ref id' 0 ys.length) ((id',⟨false,false,sz,ys,0⟩)::o1)):opK oc.call cf id base e o n t (.call ⟨.value fo,args,ts⟩) K:=by
 subst hd hm hid;refine⟨_,_,?_,h⟩
 have hg:St.give ⟨e,o,n⟩ q 0 ob.xs.length=some (ob.sz,ob.xs,⟨e,kT o q,n⟩):=by
  simp only[St.give,ho,hb,hfx,Nat.zero_add,Nat.le_refl,and_self,if_true,List.drop_zero,List.take_length]
 have hz:V.fz (.ref q 0 ob.xs.length) ⟨e,o,n⟩=some (.lst true ob.sz ob.xs,⟨e,kT o q,n⟩):=by
  simp only[V.fz,hg,zJ]
 have hs:V.snapA ⟨e,kT o q,n⟩ (.clo g [])=some (.clo g []):=rfl;simp only[opE,hx,hf,V.capsOk,if_true,hB,Bool.false_eq_true,if_false,List.append_nil,xM,hmd,jW,qU,List.headD_cons,List.tail_cons,List.headD_nil,List.tail_nil,hz,V.argOk,V.isTup,jI,hs,zJ,hc,xU,V.mention,V.mentionL,List.isEmpty_nil,true_or,V.thaw,true_and,vV,List.nil_append,List.singleton_append];rw[if_pos (by omega)]
end
end Go.Proofs.YtbcgenkegnmkhaaGreat.Ev
namespace Go.Proofs.YtbcgenkegnmkhaaGreat.Ev
open Go
set_option maxRecDepth 100000
set_option linter.unusedSimpArgs false
set_option linter.unusedVariables false
set_option maxHeartbeats 2000000
theorem zV9 {e:List (Nat×V)} {o:List (Nat×Ob)} {n N I:Nat} {ob:Ob} {k:Nat} {a:Int} (ha:a=(I:Int)) (hI:I<N) (ho:zO o 0=some ob) (hs:ob.sz=k):zL0 ⟨e,o,n⟩ k (.ref 0 0 N) a (N:Int)=some (.ref 0 I (N - I)):=by
 subst ha;unfold zL0
 by_cases h:(I:Int)=0
 ·have:I=0:=by omega
  subst this;simp
 ·simp only[if_neg h,if_neg (show ¬(I:Int)=(N:Int) by omega),ho,hs,if_true]
  simp
end Go.Proofs.YtbcgenkegnmkhaaGreat.Ev
namespace Go.Proofs.YtbcgenkegnmkhaaGreat.Ev
open Go
set_option maxRecDepth 100000
set_option linter.unusedSimpArgs false
set_option linter.unusedVariables false
set_option maxHeartbeats 2000000
theorem qEc {α:Type} [Inhabited α] {l:List α} {i:Nat} (h:i<l.length):nth l i∈l:=List.mem_of_getElem? (zEr h)
theorem zWn {e:List (Nat×V)} {o:List (Nat×Ob)} {n N I q:Nat} {ob:Ob} {k:Nat} {a:Int} (ha:a=(I:Int)) (h0:0<I) (hI:I<N) (ho:zO o q=some ob) (hs:ob.sz=k):zL0 ⟨e,o,n⟩ k (.ref q 0 N) a (N:Int)=some (.ref q I (N - I)):=by
 subst ha;unfold zL0;simp only[if_neg (show ¬(I:Int)=0 by omega),if_neg (show ¬(I:Int)=(N:Int) by omega),ho,hs,if_true];simp
theorem qF2 {s:St} {N I q k:Nat} {a:Int} (ha:a=(I:Int)) (h0:0<I) (hI:I=N):zL0 s k (.ref q 0 N) a (N:Int)=some (.lst false 0 []):=by
 subst ha hI;unfold zL0;simp only[if_neg (show ¬(I:Int)=0 by omega),if_true]
theorem zXd {s:St} {N I q k:Nat} {a:Int} (ha:a=(I:Int)) (h0:I=0):zL0 s k (.ref q 0 N) a (N:Int)=some (.ref q 0 N):=by
 subst ha h0;simp[zL0]
def zFg {α:Type} (l:List α) (i:Nat):Option α:=if i=0 then none else l[i - 1]?
theorem zIr {α:Type} {l:List α} {i:Nat} {c:α} (h:l[i]? = some c):zFg l (i+1)=some c:=by simp[zFg,h]
theorem zN4 {l:List Et} {i:Nat} (h0:0<i) (h:i<=l.length) (hi:i<2000000000):∃q,q∈l/\zFg l i=some q/\(ets false l)[(IntKind.i64.wrap ((i:Int) - 1)).toNat]? = some (q.v false)/\0<=IntKind.i64.wrap ((i:Int) - 1):=by
 have hw:IntKind.i64.wrap ((i:Int) - 1)=((i - 1:Nat):Int):=by rw[qL (by omega) (by omega)];omega
 have hlt:i - 1<l.length:=by omega
 refine⟨l[i - 1],List.getElem_mem hlt,?_,?_,by rw[hw];omega⟩
 ·unfold zFg;rw[if_neg (by omega)];simp[hlt]
 ·rw[hw];exact qAo hlt
def wOk (n:Int):Bool:=inI n (-1000000000000) 1000000000000
def zJp:Option Et->List Et->Int
 | _,[]=>0
 | p,e::r=>if zI0 e.row=0 then(if wOk e.w=false\/e.w=0 then 3 else if(p.elim false fun q=>decide (0<=vT q.row e.row))=true then 1 else zJp (some e) r) else zI0 e.row
def zFh (z:List Et):Int:=if 200<z.length then 2 else zJp none z
theorem zJf {p:Option Et} {e:Et} {r:List Et} (h:¬zI0 e.row=0):zJp p (e::r)=zI0 e.row:=by rw[zJp,if_neg h]
theorem zX3 {p:Option Et} {e:Et} {r:List Et} (h:zI0 e.row=0) (h2:wOk e.w=false\/e.w=0):zJp p (e::r)=3:=by rw[zJp,if_pos h,if_pos h2]
theorem zUi {p:Option Et} {e:Et} {r:List Et} (h:zI0 e.row=0) (h2:¬(wOk e.w=false\/e.w=0)) (h3:(p.elim false fun q=>decide (0<=vT q.row e.row))=true):zJp p (e::r)=1:=by rw[zJp,if_pos h,if_neg h2,if_pos h3]
theorem zPs {p:Option Et} {e:Et} {r:List Et} (h:zI0 e.row=0) (h2:¬(wOk e.w=false\/e.w=0)) (h3:¬(p.elim false fun q=>decide (0<=vT q.row e.row))=true):zJp p (e::r)=zJp (some e) r:=by rw[zJp,if_pos h,if_neg h2,if_neg h3]
theorem qMw (z:List Et) (hz:jY z<2000000) (hl:z.length<=200):∀i:Nat,(i<=z.length)->∀s,zH 1 (some [0,9,10,11]) s=⟨[(0,.lst false 0 (ets false z)),(9,.lst false 0 (ets false z)),(10,.int .i64 z.length),(11,.int .i64 i)],[],1⟩ ->
 oc.loop 102 4 s=some (if zJp (zFg z i) (z.drop i)=0 then(.exit 0,⟨[],[],1⟩) else(.ret,⟨[(2,.int .i64 (zJp (zFg z i) (z.drop i)))],[],1⟩)):=by
 refine zV (σ:=Nat) (fun i=>z.length - i) _ (fun i=>⟨[(0,.lst false 0 (ets false z)),(9,.lst false 0 (ets false z)),(10,.int .i64 z.length),(11,.int .i64 i)],[],1⟩) _ ?_;intro i hi ih s hs;refine qD qHu rfl rfl hs ?_;refine wa_ (zB (w_ (b_ (h:=nE (h:=zA (wa_ ?_))))));refine c_ (h1:=?_) (h2:=?_)
 rotate_right 1
 focus
  intro c1;first|exact dn c1|(
   have d1:=c1;try simp at d1
   refine zW ?_)
 rotate_right 1
 focus
  intro c1;first|exact dn c1|(
   have d1:=c1;try simp at d1
   have hw:=zU (i:=i) (by omega);obtain⟨c,hx,e1,g1⟩:=zBk (t:=false) (l:=z) (i:=i) (by omega);have hs1:=zIr hx;have hm:=zAa (List.mem_of_getElem? hx);have hrow:c.row.length<2000000:=(by unfold zS1 at hm;omega);refine zC ?_)
 all_goals first|refine zR ?_|(
  refine zA ?_;refine wa_ (zG (wa_ (zB (wM (h:=w_ (x_ (h:=w_ (l_ (h:=w_ (al (h:=W3 (h:=w0 (s_ (h:=nE (h:=zA ?_)))))))))))))));refine wa_ (wa_ (zB (w_ (f_ (h:=w_ (l_ (h:=w_ (ca (hc:=qB3 c.row hrow) (h:=W3 (h:=nE (h:=zA (wa_ (zB (wM (h:=?_)))))))))))))));refine w_ (bE (h:=nE (h:=zA ?_)));refine c_ (h1:=?_) (h2:=?_)
  rotate_right 1
  focus
   intro c2;first|exact dn c2|(
    have d2:=c2;try simp at d2
    refine zC ?_)
  rotate_right 1
  focus
   intro c2;first|exact dn c2|(
    have d2:=c2;try simp at d2
    refine wa_ (zB (wM (h:=W3 (h:=nE (h:=zA (zF ?_)))))))
  all_goals first|refine zK ?_|(
   refine zA ?_;refine wa_ (wa_ (zB (w_ (f_ (h:=w_ (l_ (h:=w_ (ca (hc:=zEd _) (h:=w_ (u_ (h:=wM (h:=?_))))))))))));refine gw_ (h1:=?_) (h2:=?_)
   rotate_right 1
   focus
    intro c3;first|exact dn c3|(
     have d3:=c3;try simp at d3
     refine go_ (h:=go_ (h:=go_ (h:=?_))))
   rotate_right 1
   focus
    intro c3;first|exact dn c3|(
     have d3:=c3;try simp at d3
     refine g_ (h:=w_ (f_ (h:=g_ (h:=w_ (l_ (h:=g_ (h:=w_ (bE (h:=?_))))))))))
   all_goals
    refine w_ (pk (h:=nE (h:=?_)))
   all_goals first
   | (
    refine zA ?_;refine c_ (h1:=?_) (h2:=?_)
    rotate_right 1
    focus
     intro c4;first|exact dn c4|(
      have d4:=c4;try simp at d4
      refine zC ?_)
    rotate_right 1
    focus
     intro c4;first|exact dn c4|(
      have d4:=c4;try simp at d4
      refine wa_ (zB (W3 (h:=nE (h:=zA (zF ?_)))))))
   all_goals first|refine zK ?_|(
    refine zA ?_;refine wa_ (qE (yM (h:=y_ (b_ (h:=ax_ (h:=yM (h:=?_)))))));refine gw_ (h1:=?_) (h2:=?_)
    rotate_right 1
    focus
     intro c5;first|exact dn c5|(
      have d5:=c5;try simp at d5
      refine gd_ (h:=gd_ (h:=gd_ (h:=gd_ (h:=gd_ (h:=gd_ (h:=gd_ (h:=gd_ (h:=gd_ (h:=gd_ (h:=?_)))))))))))
    rotate_right 1
    focus
     intro c5;first|exact dn c5|(
      have d5:=c5;try simp at d5
      obtain⟨q,hqm,hq,g2,g3⟩:=zN4 (l:=z) (i:=i) (by omega) (by omega) (by omega);have hm2:=zAa hqm;have hrow2:q.row.length<2000000:=(by unfold zS1 at hm2;omega);refine g_ (h:=yM (h:=g_ (h:=yM (h:=g_ (h:=y_ (b_ (h:=ax_ (h:=g_ (h:=y_ (x_ (h:=ax_ (h:=g_ (h:=y_ (f_ (h:=ax_ (h:=g_ (h:=y_ (l_ (h:=ax_ (h:=g_ (h:=y_ (f_ (h:=ax_ (h:=g_ (h:=y_ (l_ (h:=ax_ (h:=g_ (h:=y_ (ca (hc:=zVm q.row c.row hrow2 hrow) (h:=ax_ (h:=g_ (h:=y_ (b_ (h:=ax_ (h:=?_)))))))))))))))))))))))))))))))))))))
    all_goals
     refine y_ (pk (h:=ax_ (h:=qO (ed (h:=?_)))))
    all_goals first
    | (
     refine zA ?_;refine c_ (h1:=?_) (h2:=?_)
     rotate_right 1
     focus
      intro c6;first|exact dn c6|(
       have d6:=c6;try simp at d6
       refine zC ?_)
     rotate_right 1
     focus
      intro c6;first|exact dn c6|(
       have d6:=c6;try simp at d6
       refine wa_ (zB (W3 (h:=nE (h:=zA (zF ?_)))))))))
  all_goals first|refine zI ?_|refine zX ?_
  all_goals first|refine zK ?_|(
   refine zA ?_;refine zB (w_ (b_ (h:=wM (h:=nE (h:=?_)))))))
 all_goals first
 | (refine(ih (i+1) (by omega) ?_ _ ?_).trans ?_;(focus (first|omega|(simp;done)|(simp;omega)));(focus (simp[zH,hw];done));(focus (rw[hs1,e1,zPs d2 (by simp[wOk,d3,d4]) (by first|(rw[hq];simp;omega)|(subst d5;simp[zFg]))])))
 | (apply zP (ex:=Ext.ret) 1 (some [2]);(focus (simp[zH];rfl));(focus (rw[e1,zJf d2];simp[d2])))
 | (apply zP (ex:=Ext.ret) 1 (some [2]);(focus (simp[zH];rfl));(focus (rw[e1,zX3 d2 (by first|exact .inl d3|exact .inr d4)];simp)))
 | (apply zP (ex:=Ext.ret) 1 (some [2]);(focus (simp[zH];rfl));(focus (rw[e1,zUi d2 (by simp[wOk,d3,d4]) (by rw[hq];simp;omega)];simp)))
 | (apply zP (ex:=(Ext.exit 0)) 1 (some [2]);(focus (simp[zH];rfl));(focus (rw[List.drop_eq_nil_of_le (by omega)];simp[zJp])))
theorem qAj (z:List Et) (hz:jY z<2000000):oc.call 102 [.lst false 0 (ets false z)]=some (.int .i64 (zFh z),[]):=by
 refine qA rfl qHu rfl rfl rfl (by simp;rfl) (by simp;rfl) ?_;refine wa_ (zB (W3 (h:=nE (h:=zA (wa_ (wa_ (zB (wM (h:=w_ (le (h:=w_ (b_ (h:=nE (h:=?_))))))))))))));refine zA ?_;refine c_ (h1:=?_) (h2:=?_)
 rotate_right 1
 focus
  intro c1;first|exact dn c1|(
   have d1:=c1;try simp at d1
   refine zC ?_)
 rotate_right 1
 focus
  intro c1;first|exact dn c1|(
   have d1:=c1;try simp at d1
   refine wa_ (zB (W3 (h:=nE (h:=zA (zF ?_))))))
 all_goals first|refine zK ?_|(
  refine zA ?_;refine wa_ (wa_ (zB (wM (h:=w_ (le (h:=wM (h:=nE (h:=zA (zG ?_)))))))));refine qY (qMw z hz (by omega) 0 (by omega) _ (by simp[zH])) ?_ ?_
  rotate_right 1
  focus
   intro c2;first|exact dn c2|(
    have d2:=c2;try simp at d2
    skip)
  rotate_right 1
  focus
   intro c2;first|exact dn c2|(
    have d2:=c2;try simp at d2
    skip)
  all_goals first|refine zX ?_|refine zS ?_
  all_goals first|refine zK ?_|(
   refine zA ?_;refine wa_ (zB (W3 (h:=nE (h:=zA (zF ?_)))))))
 all_goals (refine qX (hr:=(zL rfl zM)) (h:=?_);(focus (simp[zFh,zFg] at * <;> grind)))
theorem qL6 (z:List Et) (hz:jY z<2000000) (hl:z.length<=200):∀i:Nat,(i<=z.length)->∀s,zH 1 (some [0,3]) s=⟨[(0,.lst false 0 (ets false z)),(3,.int .i64 i)],[],1⟩ ->
 oc.loop 106 4 s=some (if zJp (zFg z i) (z.drop i)=0 then(.exit 0,⟨[],[],1⟩) else(.ret,⟨[(2,.int .i64 (zJp (zFg z i) (z.drop i)))],[],1⟩)):=by
 refine zV (σ:=Nat) (fun i=>z.length - i) _ (fun i=>⟨[(0,.lst false 0 (ets false z)),(3,.int .i64 i)],[],1⟩) _ ?_;intro i hi ih s hs;refine qD qLr rfl rfl hs ?_;refine wa_ (wa_ (zB (wM (h:=wM (h:=w_ (le (h:=w_ (b_ (h:=nE (h:=zA ?_))))))))));refine c_ (h1:=?_) (h2:=?_)
 rotate_right 1
 focus
  intro c1;first|exact dn c1|(
   have d1:=c1;try simp at d1
   refine zW ?_)
 rotate_right 1
 focus
  intro c1;first|exact dn c1|(
   have d1:=c1;try simp at d1
   have hw:=zU (i:=i) (by omega);obtain⟨c,hx,e1,g1⟩:=zBk (t:=false) (l:=z) (i:=i) (by omega);have hs1:=zIr hx;have hm:=zAa (List.mem_of_getElem? hx);have hrow:c.row.length<2000000:=(by unfold zS1 at hm;omega);refine zC ?_)
 all_goals first|refine zR ?_|(
  refine zA ?_;refine wa_ (zG (wa_ (wa_ (zB (wM (h:=wM (h:=w_ (x_ (h:=w_ (f_ (h:=w_ (l_ (h:=w_ (ca (hc:=qMe c.row hrow) (h:=W3 (h:=?_))))))))))))))));refine nE (h:=zA (wa_ (zB (wM (h:=w_ (bE (h:=nE (h:=zA ?_))))))));refine c_ (h1:=?_) (h2:=?_)
  rotate_right 1
  focus
   intro c2;first|exact dn c2|(
    have d2:=c2;try simp at d2
    refine zC ?_)
  rotate_right 1
  focus
   intro c2;first|exact dn c2|(
    have d2:=c2;try simp at d2
    refine wa_ (zB (wM (h:=W3 (h:=nE (h:=zA (zF ?_)))))))
  all_goals first|refine zK ?_|(
   refine zA ?_;refine wa_ (wa_ (zB (wM (h:=wM (h:=w_ (x_ (h:=w_ (f_ (h:=w_ (l_ (h:=w_ (ca (hc:=zI7 _) (h:=w_ (u_ (h:=wM (h:=?_))))))))))))))));refine gw_ (h1:=?_) (h2:=?_)
   rotate_right 1
   focus
    intro c3;first|exact dn c3|(
     have d3:=c3;try simp at d3
     refine go_ (h:=go_ (h:=go_ (h:=go_ (h:=go_ (h:=go_ (h:=?_)))))))
   rotate_right 1
   focus
    intro c3;first|exact dn c3|(
     have d3:=c3;try simp at d3
     refine g_ (h:=wM (h:=g_ (h:=wM (h:=g_ (h:=w_ (x_ (h:=g_ (h:=w_ (f_ (h:=g_ (h:=w_ (l_ (h:=g_ (h:=w_ (bE (h:=?_)))))))))))))))))
   all_goals
    refine w_ (pk (h:=nE (h:=?_)))
   all_goals first
   | (
    refine zA ?_;refine c_ (h1:=?_) (h2:=?_)
    rotate_right 1
    focus
     intro c4;first|exact dn c4|(
      have d4:=c4;try simp at d4
      refine zC ?_)
    rotate_right 1
    focus
     intro c4;first|exact dn c4|(
      have d4:=c4;try simp at d4
      refine wa_ (zB (W3 (h:=nE (h:=zA (zF ?_)))))))
   all_goals first|refine zK ?_|(
    refine zA ?_;refine wa_ (qE (yM (h:=y_ (b_ (h:=ax_ (h:=yM (h:=?_)))))));refine gw_ (h1:=?_) (h2:=?_)
    rotate_right 1
    focus
     intro c5;first|exact dn c5|(
      have d5:=c5;try simp at d5
      refine gd_ (h:=gd_ (h:=gd_ (h:=gd_ (h:=gd_ (h:=gd_ (h:=gd_ (h:=gd_ (h:=gd_ (h:=gd_ (h:=gd_ (h:=gd_ (h:=?_))))))))))));refine gd_ (h:=?_))
    rotate_right 1
    focus
     intro c5;first|exact dn c5|(
      have d5:=c5;try simp at d5
      obtain⟨q,hqm,hq,g2,g3⟩:=zN4 (l:=z) (i:=i) (by omega) (by omega) (by omega);have hm2:=zAa hqm;have hrow2:q.row.length<2000000:=(by unfold zS1 at hm2;omega);have han:=kX c.row q.row;refine g_ (h:=yM (h:=g_ (h:=yM (h:=g_ (h:=y_ (x_ (h:=ax_ (h:=g_ (h:=y_ (f_ (h:=ax_ (h:=g_ (h:=y_ (l_ (h:=ax_ (h:=g_ (h:=yM (h:=g_ (h:=yM (h:=g_ (h:=y_ (b_ (h:=ax_ (h:=g_ (h:=y_ (x_ (h:=ax_ (h:=g_ (h:=y_ (f_ (h:=ax_ (h:=g_ (h:=y_ (l_ (h:=ax_ (h:=g_ (h:=y_ (ca (hc:=zNv c.row q.row hrow hrow2) (h:=ax_ (h:=?_))))))))))))))))))))))))))))))))))))))));refine g_ (h:=y_ (b_ (h:=ax_ (h:=?_)))))
    all_goals
     refine y_ (pk (h:=ax_ (h:=qO (ed (h:=?_)))))
    all_goals first
    | (
     refine zA ?_;refine c_ (h1:=?_) (h2:=?_)
     rotate_right 1
     focus
      intro c6;first|exact dn c6|(
       have d6:=c6;try simp at d6
       refine zC ?_)
     rotate_right 1
     focus
      intro c6;first|exact dn c6|(
       have d6:=c6;try simp at d6
       refine wa_ (zB (W3 (h:=nE (h:=zA (zF ?_)))))))))
  all_goals first|refine zI ?_|refine zX ?_
  all_goals first|refine zK ?_|(
   refine zA ?_;refine zB (wM (h:=w_ (b_ (h:=W3 (h:=nE (h:=?_))))))))
 all_goals first
 | (refine(ih (i+1) (by omega) ?_ _ ?_).trans ?_;(focus (first|omega|(simp;done)|(simp;omega)));(focus (simp[zH,hw];done));(focus (rw[hs1,e1,zPs d2 (by simp[wOk,d3,d4]) (by first|(rw[hq];simp;omega)|(subst d5;simp[zFg]))])))
 | (apply zP (ex:=Ext.ret) 1 (some [2]);(focus (simp[zH];rfl));(focus (rw[e1,zJf d2];simp[d2])))
 | (apply zP (ex:=Ext.ret) 1 (some [2]);(focus (simp[zH];rfl));(focus (rw[e1,zX3 d2 (by first|exact .inl d3|exact .inr d4)];simp)))
 | (apply zP (ex:=Ext.ret) 1 (some [2]);(focus (simp[zH];rfl));(focus (rw[e1,zUi d2 (by simp[wOk,d3,d4]) (by rw[hq];simp;omega)];simp)))
 | (apply zP (ex:=(Ext.exit 0)) 1 (some [2]);(focus (simp[zH];rfl));(focus (rw[List.drop_eq_nil_of_le (by omega)];simp[zJp])))
theorem qLm (z:List Et) (hz:jY z<2000000):oc.call 106 [.lst false 0 (ets false z)]=some (.int .i64 (zFh z),[]):=by
 refine qA rfl qLr rfl rfl rfl (by simp;rfl) (by simp;rfl) ?_;refine wa_ (zB (W3 (h:=nE (h:=zA (wa_ (wa_ (zB (wM (h:=w_ (le (h:=w_ (b_ (h:=nE (h:=?_))))))))))))));refine zA ?_;refine c_ (h1:=?_) (h2:=?_)
 rotate_right 1
 focus
  intro c1;first|exact dn c1|(
   have d1:=c1;try simp at d1
   refine zC ?_)
 rotate_right 1
 focus
  intro c1;first|exact dn c1|(
   have d1:=c1;try simp at d1
   refine wa_ (zB (W3 (h:=nE (h:=zA (zF ?_))))))
 all_goals first|refine zK ?_|(
  refine zA ?_;refine wa_ (wa_ (zB (W3 (h:=nE (h:=zA (zG ?_))))));refine qY (qL6 z hz (by omega) 0 (by omega) _ (by simp[zH])) ?_ ?_
  rotate_right 1
  focus
   intro c2;first|exact dn c2|(
    have d2:=c2;try simp at d2
    skip)
  rotate_right 1
  focus
   intro c2;first|exact dn c2|(
    have d2:=c2;try simp at d2
    skip)
  all_goals first|refine zX ?_|refine zS ?_
  all_goals first|refine zK ?_|(
   refine zA ?_;refine wa_ (zB (W3 (h:=nE (h:=zA (zF ?_)))))))
 all_goals (refine qX (hr:=(zL rfl zM)) (h:=?_);(focus (simp[zFh,zFg] at * <;> grind)))
def zOr (z:List Et) (k:Int):Int:=if zFh z=0 then(if z.all (fun e=>decide ((e.row.length:Int)=k))=true then 0 else 1) else zFh z
theorem qJl (z:List Et) (k:Int) (hz:jY z<2000000):∀i:Nat,(i<=z.length)->∀s,zH 2 (some [1,13,14,15]) s=⟨[(1,.int .i64 k),(13,.lst false 0 (ets false z)),(14,.int .i64 z.length),(15,.int .i64 i)],[],2⟩ ->
 oc.loop 45 5 s=some (if(z.drop i).all (fun e=>decide ((e.row.length:Int)=k))=true then(.exit 0,⟨[],[],2⟩) else(.ret,⟨[(4,.int .i64 1)],[],2⟩)):=by
 refine zV (σ:=Nat) (fun i=>z.length - i) _ (fun i=>⟨[(1,.int .i64 k),(13,.lst false 0 (ets false z)),(14,.int .i64 z.length),(15,.int .i64 i)],[],2⟩) _ ?_;intro i hi ih s hs;refine qD cd45 rfl rfl hs ?_;have hzl:=kY (l:=z);refine wa_ (zB (w_ (b_ (h:=nE (h:=zA (wa_ ?_))))));refine c_ (h1:=?_) (h2:=?_)
 rotate_right 1
 focus
  intro c1;first|exact dn c1|(
   have d1:=c1;try simp at d1
   refine zW ?_)
 rotate_right 1
 focus
  intro c1;first|exact dn c1|(
   have d1:=c1;try simp at d1
   have hw:=zU (i:=i) (by omega);obtain⟨c,hx,e1,g1⟩:=zBk (t:=false) (l:=z) (i:=i) (by omega);have hm:=zAa (List.mem_of_getElem? hx);have hrow:c.row.length<2000000:=(by unfold zS1 at hm;omega);refine zC ?_)
 all_goals first|refine zR ?_|(
  refine zA ?_;refine wa_ (zG (wa_ (zB (w_ (x_ (h:=w_ (l_ (h:=w_ (al (h:=w0 (s_ (h:=nE (h:=zA (wa_ (zB ?_)))))))))))))));refine w_ (f_ (h:=w_ (l_ (h:=w_ (ca (hc:=zQn 0 (ints c.row) (by simp;omega)) (h:=wM (h:=w_ (bE (h:=nE (h:=zA ?_))))))))));refine c_ (h1:=?_) (h2:=?_)
  rotate_right 1
  focus
   intro c2;first|exact dn c2|(
    have d2:=c2;try simp at d2
    refine zC ?_)
  rotate_right 1
  focus
   intro c2;first|exact dn c2|(
    have d2:=c2;try simp at d2
    refine wa_ (zB (W3 (h:=nE (h:=zA (zF ?_))))))
  all_goals first|refine zI ?_|refine zX ?_
  all_goals first|refine zK ?_|(
   refine zA ?_;refine zB (w_ (b_ (h:=wM (h:=nE (h:=?_)))))))
 all_goals first
 | (refine(ih (i+1) (by omega) ?_ _ ?_).trans ?_;(focus (first|omega|(simp;done)|(simp;omega)));(focus (simp[zH,hw];done));(focus (rw[e1];simp[d2])))
 | (apply zP (ex:=Ext.ret) 2 (some [4]);(focus (simp[zH];rfl));(focus (rw[e1];simp[d2])))
 | (apply zP (ex:=(Ext.exit 0)) 2 (some [4]);(focus (simp[zH];rfl));(focus (rw[List.drop_eq_nil_of_le (by omega)];simp)))
theorem qB0 (z:List Et) (k:Int) (hz:jY z<2000000):oc.call 45 [.lst false 0 (ets false z),.int .i64 k]=some (.int .i64 (zOr z k),[]):=by
 refine qA rfl cd45 rfl rfl rfl (by simp;rfl) (by simp;rfl) ?_;refine wa_ (zB (W3 (h:=nE (h:=zA (wa_ (wa_ (zB (wM (h:=w_ (ca (hc:=qAj z hz) (h:=W3 (h:=nE (h:=?_)))))))))))));refine zA (wa_ (zB (wM (h:=w_ (bE (h:=nE (h:=zA ?_)))))));refine c_ (h1:=?_) (h2:=?_)
 rotate_right 1
 focus
  intro c1;first|exact dn c1|(
   have d1:=c1;try simp at d1
   refine zC ?_)
 rotate_right 1
 focus
  intro c1;first|exact dn c1|(
   have d1:=c1;try simp at d1
   refine wa_ (zB (wM (h:=W3 (h:=nE (h:=zA (zF ?_)))))))
 all_goals first|refine zK ?_|(
  refine zA ?_;refine wa_ (wa_ (zB (wM (h:=w_ (le (h:=wM (h:=nE (h:=zA (zG ?_)))))))));refine qY (qJl z k hz 0 (by omega) _ (by simp[zH])) ?_ ?_
  rotate_right 1
  focus
   intro c2;first|exact dn c2|(
    have d2:=c2;try simp at d2
    skip)
  rotate_right 1
  focus
   intro c2;first|exact dn c2|(
    have d2:=c2;try simp at d2
    skip)
  all_goals first|refine zX ?_|refine zS ?_
  all_goals first|refine zK ?_|(
   refine zA ?_;refine wa_ (zB (W3 (h:=nE (h:=zA (zF ?_)))))))
 all_goals (refine qX (hr:=(zL rfl zM)) (h:=?_);(focus (simp[zOr] at * <;> grind)))
theorem qIk (z:List Et) (k:Int) (hz:jY z<2000000):∀i:Nat,(i<=z.length)->∀s,zH 2 (some [0,1,6]) s=⟨[(0,.lst false 0 (ets false z)),(1,.int .i64 k),(6,.int .i64 i)],[],2⟩ ->
 oc.loop 49 5 s=some (if(z.drop i).all (fun e=>decide ((e.row.length:Int)=k))=true then(.exit 0,⟨[],[],2⟩) else(.ret,⟨[(4,.int .i64 1)],[],2⟩)):=by
 refine zV (σ:=Nat) (fun i=>z.length - i) _ (fun i=>⟨[(0,.lst false 0 (ets false z)),(1,.int .i64 k),(6,.int .i64 i)],[],2⟩) _ ?_;intro i hi ih s hs;refine qD cd49 rfl rfl hs ?_;have hzl:=kY (l:=z);refine wa_ (wa_ (zB (wM (h:=wM (h:=w_ (le (h:=w_ (b_ (h:=nE (h:=zA ?_))))))))));refine c_ (h1:=?_) (h2:=?_)
 rotate_right 1
 focus
  intro c1;first|exact dn c1|(
   have d1:=c1;try simp at d1
   refine zW ?_)
 rotate_right 1
 focus
  intro c1;first|exact dn c1|(
   have d1:=c1;try simp at d1
   have hw:=zU (i:=i) (by omega);obtain⟨c,hx,e1,g1⟩:=zBk (t:=false) (l:=z) (i:=i) (by omega);refine zC ?_)
 all_goals first|refine zR ?_|(
  refine zA ?_;refine wa_ (zG (wa_ (zB (wM (h:=wM (h:=w_ (x_ (h:=w_ (f_ (h:=w_ (l_ (h:=w_ (le (h:=wM (h:=w_ (bE (h:=?_)))))))))))))))));refine nE (h:=zA ?_);refine c_ (h1:=?_) (h2:=?_)
  rotate_right 1
  focus
   intro c2;first|exact dn c2|(
    have d2:=c2;try simp at d2
    refine zC ?_)
  rotate_right 1
  focus
   intro c2;first|exact dn c2|(
    have d2:=c2;try simp at d2
    refine wa_ (zB (W3 (h:=nE (h:=zA (zF ?_))))))
  all_goals first|refine zI ?_|refine zX ?_
  all_goals first|refine zK ?_|(
   refine zA ?_;refine zB (wM (h:=w_ (b_ (h:=W3 (h:=nE (h:=?_))))))))
 all_goals first
 | (refine(ih (i+1) (by omega) ?_ _ ?_).trans ?_;(focus (first|omega|(simp;done)|(simp;omega)));(focus (simp[zH,hw];done));(focus (rw[e1];simp[d2])))
 | (apply zP (ex:=Ext.ret) 2 (some [4]);(focus (simp[zH];rfl));(focus (rw[e1];simp[d2])))
 | (apply zP (ex:=(Ext.exit 0)) 2 (some [4]);(focus (simp[zH];rfl));(focus (rw[List.drop_eq_nil_of_le (by omega)];simp)))
theorem qIb (z:List Et) (k:Int) (hz:jY z<2000000):oc.call 49 [.lst false 0 (ets false z),.int .i64 k]=some (.int .i64 (zOr z k),[]):=by
 refine qA rfl cd49 rfl rfl rfl (by simp;rfl) (by simp;rfl) ?_;refine wa_ (zB (W3 (h:=nE (h:=zA (wa_ (wa_ (zB (wM (h:=w_ (ca (hc:=qLm z hz) (h:=W3 (h:=nE (h:=?_)))))))))))));refine zA (wa_ (zB (wM (h:=w_ (bE (h:=nE (h:=zA ?_)))))));refine c_ (h1:=?_) (h2:=?_)
 rotate_right 1
 focus
  intro c1;first|exact dn c1|(
   have d1:=c1;try simp at d1
   refine zC ?_)
 rotate_right 1
 focus
  intro c1;first|exact dn c1|(
   have d1:=c1;try simp at d1
   refine wa_ (zB (wM (h:=W3 (h:=nE (h:=zA (zF ?_)))))))
 all_goals first|refine zK ?_|(
  refine zA ?_;refine wa_ (wa_ (zB (W3 (h:=nE (h:=zA (zG ?_))))));refine qY (qIk z k hz 0 (by omega) _ (by simp[zH])) ?_ ?_
  rotate_right 1
  focus
   intro c2;first|exact dn c2|(
    have d2:=c2;try simp at d2
    skip)
  rotate_right 1
  focus
   intro c2;first|exact dn c2|(
    have d2:=c2;try simp at d2
    skip)
  all_goals first|refine zX ?_|refine zS ?_
  all_goals first|refine zK ?_|(
   refine zA ?_;refine wa_ (zB (W3 (h:=nE (h:=zA (zF ?_)))))))
 all_goals (refine qX (hr:=(zL rfl zM)) (h:=?_);(focus (simp[zOr] at * <;> grind)))
end Go.Proofs.YtbcgenkegnmkhaaGreat.Ev
namespace Go.Proofs.YtbcgenkegnmkhaaGreat.Ev
open Go
set_option maxRecDepth 100000
set_option linter.unusedSimpArgs false
set_option linter.unusedVariables false
set_option maxHeartbeats 2000000
def mkI (k:Int) (n:Nat):List Int:=(List.range n).map fun(i:Nat)=>k+i
@[simp] theorem mkI_len {k:Int} {n:Nat}:(mkI k n).length=n:=by simp[mkI]
theorem yB {α:Type} {f g:α->V} (hf:∀x y,(f x).alike (g y)=true):∀{a b:List α},V.alikeL (a.map f) (b.map g)=decide (a.length=b.length)
 | [],[]=>rfl
 | [],_::_=>by simp[V.alikeL]
 | _::_,[]=>by simp[V.alikeL]
 | x::a,y::b=>by simp only[List.map_cons,V.alikeL,hf,Bool.true_and,yB hf (a:=a) (b:=b),List.length_cons,Nat.add_right_cancel_iff]
@[simp] theorem qGz (a b:List Int):V.alikeL (ints a) (ints b)=decide (a.length=b.length):=yB (fun _ _=>rfl)
def qLo (x:Ct):Nat:=1+1+1
def zAz (l:List Ct):Nat:=wS qLo l
def zZt (k:Int) (x:Ct):Ct:=⟨k,k+1,k+1+1⟩
@[simp] theorem mk_Ct_pl (k:Int) (x:Ct):(zZt k x).pl=k:=rfl
@[simp] theorem mk_Ct_ep (k:Int) (x:Ct):(zZt k x).ep=k+1:=rfl
@[simp] theorem mk_Ct_n (k:Int) (x:Ct):(zZt k x).n=k+1+1:=rfl
def zE8 (k:Int):List Ct->List Ct
 | []=>[]
 | x::r=>zZt k x::zE8 (k+(qLo x:Nat)) r
@[simp] theorem qGs {k:Int} {l:List Ct}:(zE8 k l).length=l.length:=by
 induction l generalizing k with
 | nil=>rfl
 | cons x r ih=>simp[zE8,ih]
@[simp] theorem qFi {k:Int} {l:List Ct}:(zE8 k l).take l.length=zE8 k l:=List.take_of_length_le (by simp)
@[simp] theorem qHz (a b:List Ct):V.alikeL (cts a) (cts b)=decide (a.length=b.length):=yB (fun _ _=>rfl)
def cn_Nd (x:Nd):Nat:=1+1+1+1+1+1+x.cells.length
def zLg (k:Int) (x:Nd):Nd:=⟨k,k+1,k+1+1,k+1+1+1,k+1+1+1+1,k+1+1+1+1+1,mkI (k+1+1+1+1+1+1) x.cells.length⟩
@[simp] theorem mk_Nd_op (k:Int) (x:Nd):(zLg k x).op=k:=rfl
@[simp] theorem mk_Nd_a (k:Int) (x:Nd):(zLg k x).a=k+1:=rfl
@[simp] theorem mk_Nd_b (k:Int) (x:Nd):(zLg k x).b=k+1+1:=rfl
@[simp] theorem qJc (k:Int) (x:Nd):(zLg k x).col=k+1+1+1:=rfl
@[simp] theorem qHa (k:Int) (x:Nd):(zLg k x).test=k+1+1+1+1:=rfl
@[simp] theorem qFg (k:Int) (x:Nd):(zLg k x).value=k+1+1+1+1+1:=rfl
@[simp] theorem qFs (k:Int) (x:Nd):(zLg k x).cells=mkI (k+1+1+1+1+1+1) x.cells.length:=rfl
def zMg (k:Int):List Nd->List Nd
 | []=>[]
 | x::r=>zLg k x::zMg (k+(cn_Nd x:Nat)) r
@[simp] theorem qH5 {k:Int} {l:List Nd}:(zMg k l).length=l.length:=by
 induction l generalizing k with
 | nil=>rfl
 | cons x r ih=>simp[zMg,ih]
@[simp] theorem qDy {k:Int} {l:List Nd}:(zMg k l).take l.length=zMg k l:=List.take_of_length_le (by simp)
@[simp] theorem qLb (t u:Bool) (s z:Nat) (a b:List Nd):V.alikeL (nds t s a) (nds u z b)=decide (a.length=b.length):=yB (fun _ _=>rfl)
def qKq (x:Et):Nat:=x.row.length+1
def xI (l:List Et):Nat:=wS qKq l
def qD6 (k:Int) (x:Et):Et:=⟨mkI (k) x.row.length,k+(x.row.length:Nat)⟩
@[simp] theorem qIr (k:Int) (x:Et):(qD6 k x).row=mkI (k) x.row.length:=rfl
@[simp] theorem mk_Et_w (k:Int) (x:Et):(qD6 k x).w=k+(x.row.length:Nat):=rfl
def vF (k:Int):List Et->List Et
 | []=>[]
 | x::r=>qD6 k x::vF (k+(qKq x:Nat)) r
@[simp] theorem qGc {k:Int} {l:List Et}:(vF k l).length=l.length:=by
 induction l generalizing k with
 | nil=>rfl
 | cons x r ih=>simp[vF,ih]
@[simp] theorem qEv {k:Int} {l:List Et}:(vF k l).take l.length=vF k l:=List.take_of_length_le (by simp)
@[simp] theorem qJe (t u:Bool) (a b:List Et):V.alikeL (ets t a) (ets u b)=decide (a.length=b.length):=yB (fun _ _=>rfl)
def qHt (x:Fr):Nat:=1+1+1+1+xI x.set+zAz x.news
def zAb (l:List Fr):Nat:=wS qHt l
def zOd (k:Int) (x:Fr):Fr:=⟨k,k+1,k+1+1,k+1+1+1,vF (k+1+1+1+1) x.set,zE8 (k+1+1+1+1+(xI x.set:Nat)) x.news⟩
@[simp] theorem qGd (k:Int) (x:Fr):(zOd k x).kind=k:=rfl
@[simp] theorem qGy (k:Int) (x:Fr):(zOd k x).node=k+1:=rfl
@[simp] theorem qGi (k:Int) (x:Fr):(zOd k x).side=k+1+1:=rfl
@[simp] theorem mk_Fr_ep (k:Int) (x:Fr):(zOd k x).ep=k+1+1+1:=rfl
@[simp] theorem qKr (k:Int) (x:Fr):(zOd k x).set=vF (k+1+1+1+1) x.set:=rfl
@[simp] theorem qHc (k:Int) (x:Fr):(zOd k x).news=zE8 (k+1+1+1+1+(xI x.set:Nat)) x.news:=rfl
def zFy (k:Int):List Fr->List Fr
 | []=>[]
 | x::r=>zOd k x::zFy (k+(qHt x:Nat)) r
@[simp] theorem qGx {k:Int} {l:List Fr}:(zFy k l).length=l.length:=by
 induction l generalizing k with
 | nil=>rfl
 | cons x r ih=>simp[zFy,ih]
@[simp] theorem qEd {k:Int} {l:List Fr}:(zFy k l).take l.length=zFy k l:=List.take_of_length_le (by simp)
@[simp] theorem qKz (t u:Bool) (a b:List Fr):V.alikeL (frs t a) (frs u b)=decide (a.length=b.length):=yB (fun _ _=>rfl)
def qIj (x:Bt):Nat:=1+1+xI x.set
def zVp (l:List Bt):Nat:=wS qIj l
def zZ6 (k:Int) (x:Bt):Bt:=⟨k,k+1,vF (k+1+1) x.set⟩
@[simp] theorem qGg (k:Int) (x:Bt):(zZ6 k x).side=k:=rfl
@[simp] theorem mk_Bt_ep (k:Int) (x:Bt):(zZ6 k x).ep=k+1:=rfl
@[simp] theorem qM2 (k:Int) (x:Bt):(zZ6 k x).set=vF (k+1+1) x.set:=rfl
def zFw (k:Int):List Bt->List Bt
 | []=>[]
 | x::r=>zZ6 k x::zFw (k+(qIj x:Nat)) r
@[simp] theorem qHj {k:Int} {l:List Bt}:(zFw k l).length=l.length:=by
 induction l generalizing k with
 | nil=>rfl
 | cons x r ih=>simp[zFw,ih]
@[simp] theorem qD8 {k:Int} {l:List Bt}:(zFw k l).take l.length=zFw k l:=List.take_of_length_le (by simp)
@[simp] theorem qIg (t u:Bool) (a b:List Bt):V.alikeL (bts t a) (bts u b)=decide (a.length=b.length):=yB (fun _ _=>rfl)
def qNa (x:Hd):Nat:=xI x.oldA+xI x.oldB+zVp x.waits+1
def zDl (l:List Hd):Nat:=wS qNa l
def zUy (k:Int) (x:Hd):Hd:=⟨vF (k) x.oldA,vF (k+(xI x.oldA:Nat)) x.oldB,zFw (k+(xI x.oldA:Nat)+(xI x.oldB:Nat)) x.waits,k+(xI x.oldA:Nat)+(xI x.oldB:Nat)+(zVp x.waits:Nat)⟩
@[simp] theorem qH2 (k:Int) (x:Hd):(zUy k x).oldA=vF (k) x.oldA:=rfl
@[simp] theorem qHs (k:Int) (x:Hd):(zUy k x).oldB=vF (k+(xI x.oldA:Nat)) x.oldB:=rfl
@[simp] theorem qDw (k:Int) (x:Hd):(zUy k x).waits=zFw (k+(xI x.oldA:Nat)+(xI x.oldB:Nat)) x.waits:=rfl
@[simp] theorem qH7 (k:Int) (x:Hd):(zUy k x).told=k+(xI x.oldA:Nat)+(xI x.oldB:Nat)+(zVp x.waits:Nat):=rfl
def zGz (k:Int):List Hd->List Hd
 | []=>[]
 | x::r=>zUy k x::zGz (k+(qNa x:Nat)) r
@[simp] theorem qHn {k:Int} {l:List Hd}:(zGz k l).length=l.length:=by
 induction l generalizing k with
 | nil=>rfl
 | cons x r ih=>simp[zGz,ih]
@[simp] theorem qC1 {k:Int} {l:List Hd}:(zGz k l).take l.length=zGz k l:=List.take_of_length_le (by simp)
@[simp] theorem qJp (t u:Bool) (a b:List Hd):V.alikeL (hds t a) (hds u b)=decide (a.length=b.length):=yB (fun _ _=>rfl)
def qI7 (x:Rl):Nat:=1+1+xI x.set
def zWl (l:List Rl):Nat:=wS qI7 l
def qA5 (k:Int) (x:Rl):Rl:=⟨k,k+1,vF (k+1+1) x.set⟩
@[simp] theorem qHg (k:Int) (x:Rl):(qA5 k x).node=k:=rfl
@[simp] theorem mk_Rl_ep (k:Int) (x:Rl):(qA5 k x).ep=k+1:=rfl
@[simp] theorem qJ0 (k:Int) (x:Rl):(qA5 k x).set=vF (k+1+1) x.set:=rfl
def zHh (k:Int):List Rl->List Rl
 | []=>[]
 | x::r=>qA5 k x::zHh (k+(qI7 x:Nat)) r
@[simp] theorem qGq {k:Int} {l:List Rl}:(zHh k l).length=l.length:=by
 induction l generalizing k with
 | nil=>rfl
 | cons x r ih=>simp[zHh,ih]
@[simp] theorem qEq {k:Int} {l:List Rl}:(zHh k l).take l.length=zHh k l:=List.take_of_length_le (by simp)
@[simp] theorem qLw (t u:Bool) (a b:List Rl):V.alikeL (rls t a) (rls u b)=decide (a.length=b.length):=yB (fun _ _=>rfl)
def cn_Wk (x:Wk):Nat:=zAb x.inbox+zAz x.counts+zDl x.nodes+1+1+zWl x.outs+1
def zLq (k:Int) (x:Wk):Wk:=⟨zFy (k) x.inbox,zE8 (k+(zAb x.inbox:Nat)) x.counts,zGz (k+(zAb x.inbox:Nat)+(zAz x.counts:Nat)) x.nodes,k+(zAb x.inbox:Nat)+(zAz x.counts:Nat)+(zDl x.nodes:Nat),k+(zAb x.inbox:Nat)+(zAz x.counts:Nat)+(zDl x.nodes:Nat)+1,zHh (k+(zAb x.inbox:Nat)+(zAz x.counts:Nat)+(zDl x.nodes:Nat)+1+1) x.outs,decide ((k+(zAb x.inbox:Nat)+(zAz x.counts:Nat)+(zDl x.nodes:Nat)+1+1+(zWl x.outs:Nat)).tmod 3=0)⟩
@[simp] theorem qBt (k:Int) (x:Wk):(zLq k x).inbox=zFy (k) x.inbox:=rfl
@[simp] theorem qBh (k:Int) (x:Wk):(zLq k x).counts=zE8 (k+(zAb x.inbox:Nat)) x.counts:=rfl
@[simp] theorem qFd (k:Int) (x:Wk):(zLq k x).nodes=zGz (k+(zAb x.inbox:Nat)+(zAz x.counts:Nat)) x.nodes:=rfl
@[simp] theorem mk_Wk_ep (k:Int) (x:Wk):(zLq k x).ep=k+(zAb x.inbox:Nat)+(zAz x.counts:Nat)+(zDl x.nodes:Nat):=rfl
@[simp] theorem qMz (k:Int) (x:Wk):(zLq k x).top=k+(zAb x.inbox:Nat)+(zAz x.counts:Nat)+(zDl x.nodes:Nat)+1:=rfl
@[simp] theorem qG9 (k:Int) (x:Wk):(zLq k x).outs=zHh (k+(zAb x.inbox:Nat)+(zAz x.counts:Nat)+(zDl x.nodes:Nat)+1+1) x.outs:=rfl
@[simp] theorem qKl (k:Int) (x:Wk):(zLq k x).bad=decide ((k+(zAb x.inbox:Nat)+(zAz x.counts:Nat)+(zDl x.nodes:Nat)+1+1+(zWl x.outs:Nat)).tmod 3=0):=rfl
def zLy (k:Int):List Wk->List Wk
 | []=>[]
 | x::r=>zLq k x::zLy (k+(cn_Wk x:Nat)) r
@[simp] theorem qG6 {k:Int} {l:List Wk}:(zLy k l).length=l.length:=by
 induction l generalizing k with
 | nil=>rfl
 | cons x r ih=>simp[zLy,ih]
@[simp] theorem qD5 {k:Int} {l:List Wk}:(zLy k l).take l.length=zLy k l:=List.take_of_length_le (by simp)
@[simp] theorem qKs (t u:Bool) (a b:List Wk):V.alikeL (wks t a) (wks u b)=decide (a.length=b.length):=yB (fun _ _=>rfl)
def zGt (k:Int):List (List Et)->List (List Et)
 | []=>[]
 | x::r=>vF k x::zGt (k+(xI x:Nat)) r
@[simp] theorem qCd {k:Int} {l:List (List Et)}:(zGt k l).length=l.length:=by
 induction l generalizing k with
 | nil=>rfl
 | cons x r ih=>simp[zGt,ih]
@[simp] theorem qBj {k:Int} {l:List (List Et)}:(zGt k l).take l.length=zGt k l:=List.take_of_length_le (by simp)
end Go.Proofs.YtbcgenkegnmkhaaGreat.Ev
namespace Go.Proofs.YtbcgenkegnmkhaaGreat.Ev
open Go
set_option maxRecDepth 100000
set_option linter.unusedSimpArgs false
set_option linter.unusedVariables false
set_option maxHeartbeats 2000000
def zEb (z:List Et) (k:Int):Bool:=z.any fun e=>decide ((e.row.length:Int)<k)
theorem qAp {z:List Et} (hz:jY z<2000000) {e:Et} (h:e∈z):e.row.length<2000000:=by
 have:=zAa h;unfold zS1 at this;omega
def jF (f:List Int->Int) (m:Nat) (z:List Et):List (List Et):=(List.range m).map fun(k:Nat)=>z.filter fun e=>decide (f e.row=(k:Int))
@[simp] theorem zRj {f:List Int->Int} {m:Nat} {z:List Et}:(jF f m z).length=m:=by simp[jF]
@[simp] theorem qCn {f:List Int->Int} {m:Nat} {z:List Et}:(jF f m z).take m=jF f m z:=List.take_of_length_le (by simp)
theorem zIt {f:List Int->Int} {m:Nat}:jF f m []=List.replicate m []:=by
 apply List.ext_getElem<;>simp[jF]
theorem zGj {f:List Int->Int} {m:Nat} {z:List Et} {e:Et} {i:Nat} (he:z[i]? = some e) (h0:0<=f e.row) (h1:f e.row<m):∃q,(jF f m (z.take i))[(f e.row).toNat]? = some q/\q.length<=z.length/\(jF f m (z.take i)).set (f e.row).toNat (q++[e])=jF f m (z.take (i+1)):=by
 have hk:(f e.row).toNat<m:=by omega
 refine⟨(z.take i).filter (fun x=>decide (f x.row=((f e.row).toNat:Int))),?_,?_,?_⟩
 ·simp[jF,hk]
 ·exact Nat.le_trans (List.length_filter_le _ _) (by simp;omega)
 ·have ht:z.take (i+1)=z.take i++[e]:=by
   have hlt:=(List.getElem?_eq_some_iff.1 he).1;rw[List.take_add_one,he];rfl
  rw[ht];apply List.ext_getElem?;intro n
  by_cases hn:n=(f e.row).toNat
  ·subst hn
   have hto:((f e.row).toNat:Int)=f e.row:=Int.toNat_of_nonneg h0;simp[jF,hk,List.filter_append,hto]
  ·rw[List.getElem?_set_ne (Ne.symm hn)]
   by_cases hm:n<m
   ·simp[jF,hm,List.filter_append];omega
   ·simp[jF,hm]
theorem zC1 {f:List Int->Int} {m:Nat} {z:List Et} {q:List Et} (h:q∈jF f m z):q.Sublist z:=by
 simp only[jF,List.mem_map] at h;obtain⟨k,_,rfl⟩:=h;exact List.filter_sublist
theorem zN5 {z:List Et} {k:Int} (h:zEb z k=false) {e:Et} (he:e∈z):k<=e.row.length:=by
 simp[zEb] at h;exact h e he
@[simp] abbrev srv (r:Int×List (List Et)):V:=.agg [.int .i64 r.1,.lst true 1 (yG true r.2)]
@[simp] abbrev srF (r:Int×List (List Et)):V:=.agg [.int .i64 r.1,.lst false 0 (yG false r.2)]
theorem zWb (r:List Int) (h:r.length<2000000):oc.call 177 [.lst false 0 (ints r)]=some (.lst true 1 (ints r),[]):=by
 refine qA rfl cd177 rfl rfl rfl (by simp;rfl) (by simp;rfl) ?_;refine wa_ (zB (w_ (aN (h:=nE (h:=zA (wa_ (zB (w_ (bs (h:=wM (h:=w_ (ap (h:=W3 (h:=nE (h:=?_)))))))))))))));refine zA (zF ?_)
 all_goals (refine qX (hr:=(zL rfl zM)) (h:=?_);(focus (first|(simp_all;done)|(simp_all<;>omega)|(simp_all<;>split<;>simp_all<;>omega))))
theorem qIm {α:Type} {f:α->Nat} {l m:List α} (h:l.Sublist m):wS f l<=wS f m:=by
 induction h with
 | slnil=>simp
 | cons x _ ih=>simp only[zBw];omega
 | cons_cons x _ ih=>simp only[zBw];omega
theorem zG4 {l m:List Et} (h:l.Sublist m):jY l<=jY m:=by
 have h1:=h.length_le;have h2:=qIm (f:=zS1) h;unfold jY;omega
theorem qBf {α:Type} {f:α->Nat} {c:Nat} {l:List α} (h:∀x∈l,f x<=c):wS f l<=l.length * c:=by
 induction l with
 | nil=>simp
 | cons x r ih =>
  have h1:=h x (List.mem_cons_self ..);have h2:=ih (fun y hy=>h y (List.mem_cons_of_mem _ hy));simp only[zBw,List.length_cons,Nat.succ_mul];omega
end Go.Proofs.YtbcgenkegnmkhaaGreat.Ev
namespace Go.Proofs.YtbcgenkegnmkhaaGreat.Ev
open Go
set_option maxRecDepth 100000
set_option linter.unusedSimpArgs false
set_option linter.unusedVariables false
set_option maxHeartbeats 2000000
theorem zJv {l:List Er} {i:Nat} (h:i<l.length):∃x,l[i]? = some x/\l.drop i=x::l.drop (i+1)/\(ers l)[(i:Int).toNat]? = some (x.e.v false) :=
 ⟨l[i],by simp[h],List.drop_eq_getElem_cons h,by simp[ers,ets,h]⟩
@[simp] theorem qGr (l:List Er):V.shareL (ers l)=ers l:=by simp[ers]
def vC (p:Er->Bool) (i:Nat):List Er->Int
 | []=>-1
 | x::r=>if p x=true then i else vC p (i+1) r
theorem zLu {p:Er->Bool}:∀{l:List Er} {i:Nat},decide (0<=vC p i l)=l.any p
 | [],i=>by simp[vC]
 | x::r,i=>by
  unfold vC
  by_cases h:p x=true
  ·simp[h]
  ·simp only[if_neg h,List.any_cons,zLu (l:=r) (i:=i+1)];simp[h]
theorem zUl (l:List (Er))  (p:Er->Bool) (hl:l.length<2000000) (hc:∀x∈l,oc.call 126 [x.e.v false]=some (.bool (p x),[])):∀i:Nat,i<=l.length->∀s,zH 2 (some [0,1,7,8]) s=⟨[(0,.lst false 0 (ers l)),(1,.clo 126 []),(7,.int .i64 l.length),(8,.int .i64 i)],[],2⟩ ->
 oc.loop 185 2 s=some (if 0<=vC p i (l.drop i) then(.ret,⟨[(4,.int .i64 (vC p i (l.drop i)))],[],2⟩) else(.exit 0,⟨[],[],2⟩)):=by
 refine zV (fun i=>l.length - i) _ (fun i=>⟨[(0,.lst false 0 (ers l)),(1,.clo 126 []),(7,.int .i64 l.length),(8,.int .i64 i)],[],2⟩) _ ?_;intro i hi ih s hs;refine qD zZa rfl rfl hs ?_;refine wa_ (zB (w_ (b_ (h:=nE (h:=zA (wa_ ?_))))));refine c_ (h1:=?_) (h2:=?_)
 rotate_right 1
 focus
  intro c1;first|exact dn c1|(
   have d1:=c1;try simp at d1
   refine zW ?_)
 rotate_right 1
 focus
  intro c1;first|exact dn c1|(
   have d1:=c1;try simp at d1
   have hw:=zU (i:=i) (by omega);obtain⟨x,hx,e1,g1⟩:=zJv (l:=l) (i:=i) (by omega);have hq:=hc x (List.mem_of_getElem? hx);refine zC ?_)
 all_goals first|refine zR ?_|(
  refine zA ?_;refine wa_ (zG (wa_ (zB (wM (h:=W3 (h:=nE (h:=zA (wa_ (zB (wM (h:=wM (h:=?_))))))))))));refine wM (h:=w_ (x_ (h:=w_ (l_ (h:=w_ ?_)))));refine zOh rfl rfl (by rw[zFc];rfl) rfl (by rw[zB7];rfl) (by simp[zB7,mdT];rfl) (by first|rfl|simp[*]) hq rfl (by simp;rfl) (by simp[zB7,mdT]) (by simp;rfl) (by simp;rfl) ?_;refine nE (h:=zA ?_);refine c_ (h1:=?_) (h2:=?_)
  rotate_right 1
  focus
   intro c2;first|exact dn c2|(
    have d2:=c2;try simp at d2
    refine zC ?_)
  rotate_right 1
  focus
   intro c2;first|exact dn c2|(
    have d2:=c2;try simp at d2
    refine wa_ (zB (wM (h:=W3 (h:=nE (h:=zA (zF ?_)))))))
  all_goals first|refine zI ?_|refine zX ?_
  all_goals first|refine zK ?_|(
   refine zA ?_;refine zB (w_ (b_ (h:=wM (h:=nE (h:=?_)))))))
 all_goals first
 | (refine(ih (i+1) (by omega) ?_ _ ?_).trans ?_;(focus (first|omega|(simp;done)|(simp;omega)));(focus (simp[zH,hw];done));(focus (rw[e1];simp only[vC,if_neg (show ¬p x=true by simp[d2])])))
 | (apply zP (ex:=Ext.ret) 2 (some [4]);(focus (simp[zH];rfl));(focus (rw[e1];simp[vC,d2])))
 | (apply zP (ex:=(Ext.exit 0)) 2 (some [4]);(focus (simp[zH];rfl));(focus (rw[List.drop_eq_nil_of_le (by omega)];simp[vC])))
theorem zUu (l:List (Er))  (p:Er->Bool) (hl:l.length<2000000) (hc:∀x∈l,oc.call 126 [x.e.v false]=some (.bool (p x),[])):oc.call 185 [.lst false 0 (ers l),.clo 126 []]=some (.int .i64 (if 0<=vC p 0 l then vC p 0 l else -1),[]):=by
 refine qA rfl zZa rfl rfl rfl (by simp;rfl) (by simp;rfl) ?_;refine wa_ (zB (W3 (h:=nE (h:=zA (wa_ (wa_ (zB (wM (h:=w_ (le (h:=wM (h:=nE (h:=?_)))))))))))));refine zA (zG ?_);refine qY (zUl l  p hl hc 0 (by omega) _ (by simp[zH])) ?_ ?_
 rotate_right 1
 focus
  intro c1
  skip
 rotate_right 1
 focus
  intro c1
  skip
 all_goals first|refine zX ?_|refine zS ?_
 all_goals first|refine zK ?_|(
  refine zA ?_;refine wa_ (zB (W3 (h:=nE (h:=zA (zF ?_))))))
 all_goals (refine qX (hr:=(zL rfl zM)) (h:=?_);(focus (clear hc;first|(simp_all;done)|(simp_all<;>omega))))
theorem qB2 (d:Er):oc.call 126 [d.e.v false]=some (.bool (decide (d.w=0)),[]):=by
 refine qA rfl cd126 rfl rfl rfl (by simp;rfl) (by simp;rfl) ?_;refine wa_ (zB (w_ (bx (h:=W3 (h:=nE (h:=zA (wa_ (zB (w_ (f_ (h:=w_ (l_ (h:=w_ (bE (h:=W3 (h:=?_))))))))))))))));refine nE (h:=zA (zF ?_))
 all_goals (refine qX (hr:=(zL rfl zM)) (h:=?_);(focus (first|rfl|simp[Er.e])))
def zHy (d:Er):Bool:=!inI d.w (-1000000000000) 1000000000000
theorem zUv (l:List (Er))  (p:Er->Bool) (hl:l.length<2000000) (hc:∀x∈l,oc.call 128 [x.e.v false]=some (.bool (p x),[])):∀i:Nat,i<=l.length->∀s,zH 2 (some [0,1,7,8]) s=⟨[(0,.lst false 0 (ers l)),(1,.clo 128 []),(7,.int .i64 l.length),(8,.int .i64 i)],[],2⟩ ->
 oc.loop 185 2 s=some (if 0<=vC p i (l.drop i) then(.ret,⟨[(4,.int .i64 (vC p i (l.drop i)))],[],2⟩) else(.exit 0,⟨[],[],2⟩)):=by
 refine zV (fun i=>l.length - i) _ (fun i=>⟨[(0,.lst false 0 (ers l)),(1,.clo 128 []),(7,.int .i64 l.length),(8,.int .i64 i)],[],2⟩) _ ?_;intro i hi ih s hs;refine qD zZa rfl rfl hs ?_;refine wa_ (zB (w_ (b_ (h:=nE (h:=zA (wa_ ?_))))));refine c_ (h1:=?_) (h2:=?_)
 rotate_right 1
 focus
  intro c1;first|exact dn c1|(
   have d1:=c1;try simp at d1
   refine zW ?_)
 rotate_right 1
 focus
  intro c1;first|exact dn c1|(
   have d1:=c1;try simp at d1
   have hw:=zU (i:=i) (by omega);obtain⟨x,hx,e1,g1⟩:=zJv (l:=l) (i:=i) (by omega);have hq:=hc x (List.mem_of_getElem? hx);refine zC ?_)
 all_goals first|refine zR ?_|(
  refine zA ?_;refine wa_ (zG (wa_ (zB (wM (h:=W3 (h:=nE (h:=zA (wa_ (zB (wM (h:=wM (h:=?_))))))))))));refine wM (h:=w_ (x_ (h:=w_ (l_ (h:=w_ ?_)))));refine zOh rfl rfl (by rw[zFc];rfl) rfl (by rw[zB7];rfl) (by simp[zB7,mdT];rfl) (by first|rfl|simp[*]) hq rfl (by simp;rfl) (by simp[zB7,mdT]) (by simp;rfl) (by simp;rfl) ?_;refine nE (h:=zA ?_);refine c_ (h1:=?_) (h2:=?_)
  rotate_right 1
  focus
   intro c2;first|exact dn c2|(
    have d2:=c2;try simp at d2
    refine zC ?_)
  rotate_right 1
  focus
   intro c2;first|exact dn c2|(
    have d2:=c2;try simp at d2
    refine wa_ (zB (wM (h:=W3 (h:=nE (h:=zA (zF ?_)))))))
  all_goals first|refine zI ?_|refine zX ?_
  all_goals first|refine zK ?_|(
   refine zA ?_;refine zB (w_ (b_ (h:=wM (h:=nE (h:=?_)))))))
 all_goals first
 | (refine(ih (i+1) (by omega) ?_ _ ?_).trans ?_;(focus (first|omega|(simp;done)|(simp;omega)));(focus (simp[zH,hw];done));(focus (rw[e1];simp only[vC,if_neg (show ¬p x=true by simp[d2])])))
 | (apply zP (ex:=Ext.ret) 2 (some [4]);(focus (simp[zH];rfl));(focus (rw[e1];simp[vC,d2])))
 | (apply zP (ex:=(Ext.exit 0)) 2 (some [4]);(focus (simp[zH];rfl));(focus (rw[List.drop_eq_nil_of_le (by omega)];simp[vC])))
theorem zU5 (l:List (Er))  (p:Er->Bool) (hl:l.length<2000000) (hc:∀x∈l,oc.call 128 [x.e.v false]=some (.bool (p x),[])):oc.call 185 [.lst false 0 (ers l),.clo 128 []]=some (.int .i64 (if 0<=vC p 0 l then vC p 0 l else -1),[]):=by
 refine qA rfl zZa rfl rfl rfl (by simp;rfl) (by simp;rfl) ?_;refine wa_ (zB (W3 (h:=nE (h:=zA (wa_ (wa_ (zB (wM (h:=w_ (le (h:=wM (h:=nE (h:=?_)))))))))))));refine zA (zG ?_);refine qY (zUv l  p hl hc 0 (by omega) _ (by simp[zH])) ?_ ?_
 rotate_right 1
 focus
  intro c1
  skip
 rotate_right 1
 focus
  intro c1
  skip
 all_goals first|refine zX ?_|refine zS ?_
 all_goals first|refine zK ?_|(
  refine zA ?_;refine wa_ (zB (W3 (h:=nE (h:=zA (zF ?_))))))
 all_goals (refine qX (hr:=(zL rfl zM)) (h:=?_);(focus (clear hc;first|(simp_all;done)|(simp_all<;>omega))))
theorem zS4 (l:List (Er))  (p:Er->Bool) (hl:l.length<2000000) (hc:∀x∈l,oc.call 128 [x.e.v false]=some (.bool (p x),[])):oc.call 127 [.lst false 0 (ers l),.clo 128 []]=some (.bool (l.any p),[]):=by
 refine qA rfl cd127 rfl rfl rfl (by simp;rfl) (by simp;rfl) ?_;refine wa_ (zB (W3 (h:=nE (h:=zA (wa_ (zB (wM (h:=wM (h:=w_ (ca (hc:=zU5 l  p hl hc) (h:=w_ (b_ (h:=W3 (h:=?_))))))))))))));refine nE (h:=zA (zF ?_))
 all_goals (refine qX (hr:=(zL rfl zM)) (h:=?_);(focus (clear hc;rw[<-zLu (i:=0)];simp;grind)))
theorem qKj (d:Er):oc.call 128 [d.e.v false]=some (.bool (zHy d),[]):=by
 refine qA rfl cd128 rfl rfl rfl (by simp;rfl) (by simp;rfl) ?_;refine wa_ (zB (w_ (bx (h:=W3 (h:=nE (h:=zA (wa_ (zB (w_ (f_ (h:=w_ (l_ (h:=w_ (ca (hc:=zEd _) (h:=w_ (u_ (h:=?_)))))))))))))))));refine W3 (h:=nE (h:=zA (zF ?_)))
 all_goals (refine qX (hr:=(zL rfl zM)) (h:=?_);(focus (simp[zHy,Er.e])))
def zD7 (d:Er):Bool:=decide (¬d.w=0)
def zFz (d:Er):Bool:=decide (d.w=0)
theorem zMw:∀{l:List Er} {i:Nat},¬0<=vC zFz i l->l.filter zD7=l
 | [],_,_=>rfl
 | x::r,i,h=>by
  unfold vC at h
  by_cases hx:zFz x=true
  ·rw[if_pos hx] at h;omega
  ·rw[if_neg hx] at h
   have h4:zD7 x=true:=by simp[zFz] at hx;simp[zD7,hx]
   rw[List.filter_cons,if_pos h4,zMw h]
theorem zMd:∀{l:List Er} {i:Nat},0<=vC zFz i l->∃k:Nat,vC zFz i l=((i+k:Nat):Int)/\k<l.length/\(l.take k).filter zD7=l.take k/\(l.drop k).filter zD7=(l.drop (k+1)).filter zD7
 | [],i,h=>by simp[vC] at h
 | x::r,i,h=>by
  unfold vC at h ⊢
  by_cases hx:zFz x=true
  ·rw[if_pos hx]
   have h4:¬zD7 x=true:=by simp[zFz] at hx;simp[zD7,hx]
   exact⟨0,by simp,by simp,rfl,by simp[h4]⟩
  ·rw[if_neg hx] at h ⊢
   obtain⟨k,e1,e2,e3,e4⟩:=zMd h;have h4:zD7 x=true:=by simp[zFz] at hx;simp[zD7,hx]
   exact⟨k+1,by rw[e1];congr 1;omega,by simp;omega,by rw[List.take_succ_cons,List.filter_cons,if_pos h4,e3],by simpa using e4⟩
def Ov (o:Option (List Int)) (w:Int):V:=.agg [match o with|some r=>.lst true 1 (ints r)|none=>.und,.int .i64 w]
def ovs (r:List (Option (List Int)×Int)):List V:=r.map fun p=>Ov p.1 p.2
@[simp] theorem ovs_len (r:List (Option (List Int)×Int)):(ovs r).length=r.length:=by simp[ovs]
def ovE (x:Er):Option (List Int)×Int:=(some x.row,x.w)
def erT (l:List Er):List V:=ets true (l.map Er.e)
@[simp] theorem erT_len (l:List Er):(erT l).length=l.length:=by simp[erT]
@[simp] theorem erT_nil:erT []=[]:=rfl
@[simp] theorem qHm (l:List Er):V.shareL (erT l)=ers l:=by simp[erT,ers]
@[simp] theorem erT_take (n:Nat) (l:List Er):(erT l).take n=erT (l.take n):=by simp[erT]
theorem qDr (l:List Er):ovs (l.map ovE)=erT l:=by
 simp only[ovs,erT,ets,List.map_map];rfl
theorem zTt {r:List (Option (List Int)×Int)} {i:Nat} {p:Option (List Int)×Int} (h:r[i]? = some p):(ovs r)[i]? = some (Ov p.1 p.2):=by simp[ovs,h]
@[simp] theorem ovs_set1 (r:List (Option (List Int)×Int)) (i:Nat) (w:Int):(ovs r).set i (V.agg [.und,.int .i64 w])=ovs (r.set i (none,w)):=by simp[ovs,List.map_set,Ov]
@[simp] theorem ovs_set2 (r:List (Option (List Int)×Int)) (i:Nat) (a:List Int) (w:Int):(ovs r).set i (V.agg [.lst true 1 (ints a),.int .i64 w])=ovs (r.set i (some a,w)):=by simp[ovs,List.map_set,Ov]
theorem zYy (n:Nat) (r:List (Option (List Int)×Int)):(ovs r).take n=ovs (r.take n):=by simp[ovs,List.map_take]
@[simp] theorem Ov_cells (a:Option (List Int)) (b:Int):(Ov a b).cells=2:=by cases a<;>rfl
@[simp] theorem qJ8 (a:Option (List Int)) (b c:Int) (k:IntKind) (o i v n:Nat) (fs:List Nat):(Ov a b).alike (.agg [.plc o i fs v n,.int k c])=true:=by cases a<;>rfl
@[simp] theorem qM7 (a:Option (List Int)) (b c:Int) (k:IntKind) (t:Bool) (z:Nat) (xs:List V):(Ov a b).alike (.agg [.lst t z xs,.int k c])=true:=by cases a<;>rfl
@[simp] theorem Ov_scal (a:Option (List Int)) (b:Int):(Ov a b).scal=false:=by cases a<;>rfl
theorem qAl {o:List (Nat×Ob)} {n q j v m z:Nat} {ob:Ob} {xs:List V} {k k':IntKind} {w w':Int} (ho:zO o q=some ob) (hv:ob.ver=v) (hg:ob.xs[j]? = some (.agg [.lst true z xs,.int k w])) (hm:xs.length=m) :
  V.fz (.agg [.plc q j [0] v m,.int k' w']) ⟨[],o,n⟩=some (.agg [.lst true z xs,.int k' w'],⟨[],(q,⟨ob.bx,ob.fx,ob.sz,ob.xs.set j (.agg [.und,.int k w]),v⟩)::o,n⟩):=by
 subst hv hm;simp[V.fz,V.fzL,St.takeQ,St.at,ho,Ob.get,Ob.set,hg,kS,zCv,mp,xC]
def zBq:List Er->Nat->Nat->List (Option (List Int)×Int)->Nat×List (Option (List Int)×Int)
 | [],i,_,r=>(i,r)
 | d::t,i,j,r=>if zD7 d=true then zBq t (i+1) (j+1) ((r.set j (none,d.w)).set i (ovE d)) else zBq t i (j+1) r
theorem zJ7:∀{t:List Er} {i j:Nat} {r:List (Option (List Int)×Int)},i<j->j+t.length=r.length->(zBq t i j r).2.length=r.length/\(zBq t i j r).1<r.length+1/\(zBq t i j r).2.take (zBq t i j r).1=r.take i++(t.filter zD7).map ovE
 | [],i,j,r,h0,h=>by simp[zBq] at *;omega
 | d::t,i,j,r,h0,h=>by
  simp only[List.length_cons] at h;unfold zBq
  by_cases hd:zD7 d=true
  ·rw[if_pos hd]
   obtain⟨h1,h2,h3⟩:=zJ7 (t:=t) (i:=i+1) (j:=j+1) (r:=(r.set j (none,d.w)).set i (ovE d)) (by omega) (by simp;omega);simp only[List.length_set] at h1 h2;refine⟨h1,h2,?_⟩;rw[h3,List.filter_cons,if_pos hd]
   have:((r.set j (none,d.w)).set i (ovE d)).take (i+1)=r.take i++[ovE d]:=by
    rw[List.take_add_one,List.getElem?_set_self (by simp;omega),List.take_set_of_le (by omega),List.take_set_of_le (by omega)];rfl
   rw[this];simp
  ·rw[if_neg hd]
   obtain⟨h1,h2,h3⟩:=zJ7 (t:=t) (i:=i) (j:=j+1) (r:=r) (by omega) (by omega);exact⟨h1,h2,by rw[h3,List.filter_cons,if_neg hd]⟩
theorem zJ8:∀{t:List Er} {i j:Nat} {r:List (Option (List Int)×Int)},i<j->(zBq t i j r).1<j+t.length
 | [],i,j,r,h=>by simp[zBq];exact h
 | d::t,i,j,r,h=>by
  unfold zBq;split
  ·have:=zJ8 (t:=t) (i:=i+1) (j:=j+1) (r:=(r.set j (none,d.w)).set i (ovE d)) (by omega);simp;omega
  ·have:=zJ8 (t:=t) (i:=i) (j:=j+1) (r:=r) (by omega);simp;omega
theorem qLu (l:List Er) (N:Nat) (hN:l.length=N) (hl:N<2000000):∀x:Nat×Nat×(List (Option (List Int)×Int)),(x.1<x.2.1/\x.2.1<=N/\x.2.2.length=N/\x.2.2.drop x.2.1=(l.drop x.2.1).map ovE)->∀s,zH 2 (some [0,1,5,6]) s=⟨[(0,.ref 0 0 N),(1,.clo 126 []),(5,.int .i64 x.1),(6,.int .i64 x.2.1)],[(0,⟨false,false,2,ovs x.2.2,0⟩)],2⟩ ->
 oc.loop 125 5 s=some (.exit 0,⟨[(0,.ref 0 0 N),(5,.int .i64 ((zBq (l.drop x.2.1) x.1 x.2.1 x.2.2).1:Nat))],[(0,⟨false,false,2,ovs (zBq (l.drop x.2.1) x.1 x.2.1 x.2.2).2,0⟩)],2⟩):=by
 refine zV (σ:=Nat×Nat×(List (Option (List Int)×Int))) (fun x=>N - x.2.1) _ (fun x=>⟨[(0,.ref 0 0 N),(1,.clo 126 []),(5,.int .i64 x.1),(6,.int .i64 x.2.1)],[(0,⟨false,false,2,ovs x.2.2,0⟩)],2⟩) _ ?_;rintro⟨i,j,r⟩ hi ih s hs;simp only at hi;refine qD qE0 rfl rfl hs ?_;obtain⟨hi1,hi2,hi3,hi4⟩:=hi;refine wa_ (wa_ (zB (wM (h:=wM (h:=w_ (le (h:=w_ (b_ (h:=nE (h:=zA ?_))))))))));refine c_ (h1:=?_) (h2:=?_)
 rotate_right 1
 focus
  intro c1;first|exact dn c1|(
   have d1:=c1;try simp at d1
   refine zW ?_)
 rotate_right 1
 focus
  intro c1;first|exact dn c1|(
   have d1:=c1;try simp at d1
   have hw:=zU (i:=j) (by omega);have hwi:=zU (i:=i) (by omega);obtain⟨d,hx,e1,_⟩:=zJv (l:=l) (i:=j) (by omega);have hy:r[j]? = some (ovE d):=(by have:=congrArg (fun q=>q[0]?) hi4;simpa [hx] using this);have g2:(ovs r)[j]? = some (V.agg [.lst true 1 (ints d.row),.int .i64 d.w]):=zTt hy;obtain⟨y,hy2⟩:∃y,r[i]? = some y:=⟨r[i]'(by omega),by simp⟩;have g3:(ovs r)[i]? = some (Ov y.1 y.2):=zTt hy2;have g4:((ovs r).set j (V.agg [.und,.int .i64 d.w]))[i]? = some (Ov y.1 y.2):=(by rw[List.getElem?_set_ne (by omega)];exact g3);have e2:r.drop (j+1)=(l.drop (j+1)).map ovE:=(by have:=congrArg (List.drop 1) hi4;simpa using this);refine zC ?_)
 all_goals first|refine zR ?_|(
  refine zA ?_;refine wa_ (zG (wa_ (zB (wM (h:=wM (h:=w_ (x_ (h:=w_ (l_ (h:=w_ (al (h:=w0 (s_ (h:=nE (h:=zA ?_)))))))))))))));refine wa_ (zB (wM (h:=w_ (l_ (h:=w_ ?_)))));refine ca (hsr:=by simp[g2,Er.e,Et.v,lz]) (hc:=qB2 d) (h:=?_);refine w_ (u_ (h:=nE (h:=zA ?_)));refine c_ (h1:=?_) (h2:=?_)
  rotate_right 1
  focus
   intro c2;first|exact dn c2|(
    have d2:=c2;try simp at d2
    refine zC ?_)
  rotate_right 1
  focus
   intro c2;first|exact dn c2|(
    have d2:=c2;try simp at d2
    refine wa_ (zB (wM (h:=wM (h:=w_ (l_ (h:=w_ (x_ (h:=w0 ?_))))))));refine s_ (h1:=zQi (tys_ok.zero _ _ rfl) rfl rfl rfl rfl g3 (by simp) (by rfl) (qAl rfl rfl g2 (by simp)) rfl rfl g4 (by simp) rfl rfl ⟨rfl,rfl⟩) (h:=?_);refine nE (h:=zA (zB (wM (h:=w_ (b_ (h:=W3 (h:=nE (h:=?_)))))))))
  all_goals refine zI ?_
  all_goals first
  | (
   refine zA ?_;refine zB (wM (h:=w_ (b_ (h:=W3 (h:=nE (h:=?_))))))))
 all_goals first
 | (refine(ih ((i+1,j+1,(r.set j (none,d.w)).set i (ovE d))) (⟨by simp only;omega,by simp only;omega,by simpa using hi3,by simp only;rw[List.drop_set_of_lt (by omega),List.drop_set_of_lt (by omega)];exact e2⟩) ?_ _ ?_).trans ?_;(focus (first|omega|(simp;done)|(simp;omega)));(focus (simp[zH,hw,hwi,ovE];done));(focus (rw[e1,zBq,if_pos (by simpa [zD7] using d2)])))
 | (refine(ih ((i,j+1,r)) (⟨by simp only;omega,by simp only;omega,by simpa using hi3,by simp only;exact e2⟩) ?_ _ ?_).trans ?_;(focus (first|omega|(simp;done)|(simp;omega)));(focus (simp[zH,hw];done));(focus (rw[e1,zBq,if_neg (by simpa [zD7] using d2)])))
 | (apply zP (ex:=(Ext.exit 0)) 2 (some [0,5]);(focus (simp[zH];rfl));(focus (dsimp only;rw[List.drop_eq_nil_of_le (by omega)];simp[zBq])))
theorem qEr (l:List Er) (hl:l.length<2000000):oc.call 125 [.lst true 2 (erT l),.clo 126 []]=some (.lst true 2 (erT (l.filter zD7)),[]):=by
  have hix:=zUu l zFz hl (fun x _=>by simpa [zFz] using qB2 x);have hsh:V.shareL (erT l)=ers l:=by simp[erT,ers]
  have hsn:V.shareL (ovs (l.map ovE))=ers l:=by rw[qDr];exact hsh
  by_cases hp:0<=vC zFz 0 l
  · obtain⟨k,e1,e2,e3,e4⟩:=zMd hp
    rw[if_pos hp,e1] at hix;simp only[Nat.zero_add] at hix;obtain⟨D1,D2,D3⟩:=zJ7 (t:=l.drop (k+1)) (i:=k) (j:=k+1) (r:=l.map ovE) (by omega) (by simp;omega);have D4:=zJ8 (t:=l.drop (k+1)) (i:=k) (j:=k+1) (r:=l.map ovE) (by omega)
    have hfilt:l.filter zD7=l.take k++(l.drop (k+1)).filter zD7:=by
      conv=>lhs;rw[<-List.take_append_drop k l]
      rw[List.filter_append,e3,e4]
    rw[<-List.map_take,<- List.map_append,<- hfilt] at D3;obtain⟨I,R,hD⟩:∃I R,zBq (l.drop (k+1)) k (k+1) (l.map ovE)=(I,R):=⟨_,_,rfl⟩;rw[hD] at D1 D2 D3 D4;simp only at D1 D2 D3 D4;obtain⟨F,hF⟩:∃F,l.filter zD7=F:=⟨_,rfl⟩;rw[hF] at D3 ⊢;simp only[List.length_map,List.length_drop] at D1 D2 D4;have hFl:F.length=I:=by have:=congrArg List.length D3;simp at this;omega
    subst hFl;have hw:IntKind.i64.wrap ((k:Int)+1)=((k+1:Nat):Int):=zU (by omega);have hdel:=qLu l l.length rfl hl (k,k+1,l.map ovE) ⟨by simp,by simp;omega,by simp,by simp[List.map_drop]⟩;simp only[hD] at hdel;have hcl:(ovs R).take F.length=erT F:=by rw[zYy,D3,qDr]
    have htk:(ovs (l.map ovE)).take l.length=ovs (l.map ovE):=List.take_of_length_le (by simp);rw[<-qDr l];refine qA rfl qE0 rfl rfl rfl (by simp;rfl) (by simp;rfl) ?_;refine wa_ (zB (w_ (aN (h:=nE (h:=zA (wa_ (zB (wM (h:=wM (h:=w_ (ca (hc:=hix) (h:=W3 (h:=nE (h:=?_))))))))))))));refine zA (wa_ (wa_ (zB (wM (h:=w_ (bE (h:=nE (h:=zA ?_))))))));refine c_ (h1:=?_) (h2:=?_)
    rotate_right 1
    focus
     intro c1
     first
     | exact dn c1
     | (have d1:=c1;try simp at d1
        refine zC ?_)
    rotate_right 1
    focus
     intro c1
     first
     | exact dn c1
     | (have d1:=c1;try simp at d1
        exfalso;simp at c1;omega)
    all_goals first
    | refine zK ?_
    | (refine zA ?_
       refine wa_ (wa_ (zB (wM (h:=w_ (b_ (h:=W3 (h:=nE (h:=zA (zG ?_)))))))));refine qH (hdel _ (by simp[zH,hw])) ?_;refine zS (zA (wa_ (zB (wM (h:=wM (h:=w_ ?_))))));refine sl (v:=.ref 0 F.length (l.length - F.length)) (hv:=zV9 rfl (by omega) rfl rfl) (h:=?_);refine w0 ?_;refine cl (ws:=erT F) (hw:=hcl) (h:=?_);refine nE (h:=zA (wa_ (zB (wM (h:=wM (h:=w_ (sl (h:=W3 (h:=nE (h:=zA (zF ?_))))))))))))
    all_goals (refine qX (hr:=(zL rfl zM)) (h:=?_);(focus (simp)))
  · have hfil:=zMw hp
    rw[if_neg hp] at hix;rw[hfil];refine qA rfl qE0 rfl rfl rfl (by simp;rfl) (by simp;rfl) ?_;refine wa_ (zB (w_ (aN (h:=nE (h:=zA (wa_ (zB (wM (h:=wM (h:=w_ (ca (hc:=hix) (h:=W3 (h:=nE (h:=?_))))))))))))));refine zA (wa_ (wa_ (zB (wM (h:=w_ (bE (h:=nE (h:=zA ?_))))))));refine c_ (h1:=?_) (h2:=?_)
    rotate_right 1
    focus
     intro c1
     first
     | exact dn c1
     | (have d1:=c1;try simp at d1
        exfalso;simp at c1)
    rotate_right 1
    focus
     intro c1
     first
     | exact dn c1
     | (have d1:=c1;try simp at d1
        refine wa_ (zB (wM (h:=W3 (h:=nE (h:=zA (zF ?_)))))))
    all_goals first
    | refine zK ?_
    | (refine zA ?_
       refine wa_ (wa_ (zB (wM (h:=w_ (b_ (h:=W3 (h:=nE (h:=zA (zG ?_)))))))));refine qH (hix) ?_;refine zS (zA (wa_ (zB (wM (h:=wM (h:=w_ (sl (h:=w0 (cl (h:=nE (h:=zA (wa_ (zB ?_)))))))))))));refine wM (h:=wM (h:=w_ (sl (h:=W3 (h:=nE (h:=zA (zF ?_))))))))
    all_goals (refine qX (hr:=(zL rfl zM)) (h:=?_);(focus (simp)))
theorem c1_E (l:List Et) (hl:l.length<2000000) (h:l≠[]):vW oc cf 121 [.lst false 0 (ets false l)]=some (.lst true 2 (ets false l),[]):=by
 refine zCx qBx rfl rfl rfl (by first|(simp;rfl)|rfl) (by first|(simp;rfl)|rfl) ?_;have hne:ets false l≠[]:=by simpa [ets] using h
 refine wa_ (zB (w_ (aN (h:=nE (h:=zA (wa_ (wa_ (zB (wM (h:=w_ (bN (h:=nE (h:=zA ?_)))))))))))));refine c_ (h1:=?_) (h2:=?_)
 rotate_right 1
 focus
  intro c1;refine zC ?_
 rotate_right 1
 focus
  intro c1;refine wa_ (zB (w_ (aN (h:=nE (h:=zA (zF ?_))))))
 all_goals first|refine zK ?_|(
  refine zA ?_;refine wa_ (zB (w_ (bs (h:=wM (h:=w_ (ap (h:=W3 (h:=nE (h:=zA (zF ?_)))))))))))
 all_goals (refine qX (hr:=(zL rfl zM)) (h:=?_);(focus (first|(simp_all;done)|(simp_all<;>omega)|(simp_all<;>split<;>simp_all<;>omega))))
theorem c2_E :vW oc cf 121 [.emp true]=some (.lst true 2 [],[]):=by
 refine zCx qBx rfl rfl rfl (by first|(simp;rfl)|rfl) (by first|(simp;rfl)|rfl) ?_;refine wa_ (zB (w_ (aN (h:=nE (h:=zA (wa_ (wa_ (zB (wM (h:=w_ (bN (h:=nE (h:=zA ?_)))))))))))));refine c_ (h1:=?_) (h2:=?_)
 rotate_right 1
 focus
  intro c1;first|exact dn c1|(
   have d1:=c1;try simp at d1
   refine zC ?_)
 rotate_right 1
 focus
  intro c1;first|exact dn c1|(
   have d1:=c1;try simp at d1
   refine wa_ (zB (w_ (aN (h:=nE (h:=zA (zF ?_)))))))
 all_goals first|refine zK ?_|(
  refine zA ?_;refine wa_ (zB (w_ (bs (h:=wM (h:=w_ (ap (h:=W3 (h:=nE (h:=zA (zF ?_)))))))))))
 all_goals (refine qX (hr:=(zL rfl zM)) (h:=?_);(focus (first|(simp_all;done)|(simp_all<;>omega)|(simp_all<;>split<;>simp_all<;>omega))))
theorem c3_E :vW oc cf 121 [.emp false]=some (.lst true 2 [],[]):=by
 refine zCx qBx rfl rfl rfl (by first|(simp;rfl)|rfl) (by first|(simp;rfl)|rfl) ?_;refine wa_ (zB (w_ (aN (h:=nE (h:=zA (wa_ (wa_ (zB (wM (h:=w_ (bN (h:=nE (h:=zA ?_)))))))))))));refine c_ (h1:=?_) (h2:=?_)
 rotate_right 1
 focus
  intro c1;first|exact dn c1|(
   have d1:=c1;try simp at d1
   refine zC ?_)
 rotate_right 1
 focus
  intro c1;first|exact dn c1|(
   have d1:=c1;try simp at d1
   refine wa_ (zB (w_ (aN (h:=nE (h:=zA (zF ?_)))))))
 all_goals first|refine zK ?_|(
  refine zA ?_;refine wa_ (zB (w_ (bs (h:=wM (h:=w_ (ap (h:=W3 (h:=nE (h:=zA (zF ?_)))))))))))
 all_goals (refine qX (hr:=(zL rfl zM)) (h:=?_);(focus (first|(simp_all;done)|(simp_all<;>omega)|(simp_all<;>split<;>simp_all<;>omega))))
theorem zZq (l:List Et) (hl:l.length<2000000):oc.call 121 [.lst false 0 (ets false l)]=some (.lst true 2 (ets false l),[]) :=
 qJ5 rfl (fun h=>c1_E l hl (by rintro rfl;exact h rfl)) (fun h=>by have:l=[]:=(by simpa [ets] using h);subst this;exact c2_E) (fun h=>by have:l=[]:=(by simpa [ets] using h);subst this;exact c3_E)
abbrev zHr:List Er->Er->List Er:=zAo ltE zKs
theorem qI2 (S:List Er) (hS:Srt ltE 0 S.length S) (hl:S.length<2000000) (hn:∀i,i<S.length->IntKind.i64.wrap (nth S i).w=(nth S i).w):∀x:Nat×(List Er),(x.1<=S.length/\(S.take x.1).foldl zHr []=x.2)->∀s,zH 1 (some [4,5,13,14,15]) s=⟨[(4,.ref 1 0 S.length),(5,.ref 2 0 x.2.length),(13,.ref 1 0 S.length),(14,.int .i64 S.length),(15,.int .i64 x.1)],[(1,⟨false,false,2,ers S,0⟩),(2,⟨false,false,2,erT x.2,0⟩)],3⟩ ->
 oc.loop 60 4 s=some (.exit 0,⟨[(5,.ref 1 0 (S.foldl zHr []).length)],[(1,⟨false,false,2,erT (S.foldl zHr []),0⟩)],2⟩):=by
 refine zV (σ:=Nat×(List Er)) (fun x=>S.length - x.1) _ (fun x=>⟨[(4,.ref 1 0 S.length),(5,.ref 2 0 x.2.length),(13,.ref 1 0 S.length),(14,.int .i64 S.length),(15,.int .i64 x.1)],[(1,⟨false,false,2,ers S,0⟩),(2,⟨false,false,2,erT x.2,0⟩)],3⟩) _ ?_;rintro⟨i,out⟩ hi ih s hs;simp only at hi;refine qD cd60 rfl rfl hs ?_;obtain⟨hi1,hi2⟩:=hi;have hol:out.length<=i:=by have:=zG9 (lt:=ltE) (add:=zKs) (S:=S.take i) (acc:=[]);rw[hi2] at this;simp at this;omega
 refine wa_ (zB (w_ (b_ (h:=nE (h:=zA (wa_ ?_))))));refine c_ (h1:=?_) (h2:=?_)
 rotate_right 1
 focus
  intro c1;first|exact dn c1|(
   have d1:=c1;try simp at d1
   refine zW ?_)
 rotate_right 1
 focus
  intro c1;first|exact dn c1|(
   have d1:=c1;try simp at d1
   have hi:i<S.length:=(by simp at c1;omega);have hw:=zU (i:=i) (by omega);have g1:(ers S)[i]? = some ((nth S i).e.v false):=kP hi;have g2:(ers S)[i - 1]? = some ((nth S (i - 1)).e.v false):=kP (by omega);refine zC ?_)
 all_goals first|refine zR ?_|(
  refine zA ?_;refine wa_ (zG (wa_ (zB (wM (h:=w_ (x_ (h:=w_ (l_ (h:=w_ (al (h:=W3 (h:=w0 (s_ (h:=nE (h:=zA ?_)))))))))))))));refine wa_ (wa_ (qE (yM (h:=y_ (bE (h:=ax_ (h:=yM (h:=?_))))))));refine gw_ (h1:=?_) (h2:=?_)
  rotate_right 1
  focus
   intro c2;first|exact dn c2|(
    have d2:=c2;try simp at d2
    refine gd_ (h:=gd_ (h:=gd_ (h:=gd_ (h:=gd_ (h:=gd_ (h:=gd_ (h:=gd_ (h:=?_)))))))))
  rotate_right 1
  focus
   intro c2;first|exact dn c2|(
    have d2:=c2;try simp at d2
    refine g_ (h:=yM (h:=g_ (h:=yM (h:=g_ (h:=y_ ?_)))));refine b_ (hv:=jZ (c:=i - 1) (by omega) (by omega)) (h:=?_);refine ax_ (h:=g_ (h:=y_ (x_ (h:=ax_ (h:=g_ (h:=y_ (l_ (h:=ax_ (h:=g_ (h:=y_ (l_ (h:=ax_ (h:=g_ (h:=y_ (ca (hc:=zWr (nth S (i - 1)) (nth S i)) (h:=ax_ (h:=g_ (h:=y_ (bE (h:=ax_ (h:=?_))))))))))))))))))))))
  all_goals
   refine y_ (pk (h:=ax_ (h:=qO (ed (h:=?_)))))
  all_goals first
  | (
   refine zA ?_;refine c_ (h1:=?_) (h2:=?_)
   rotate_right 1
   focus
    intro c3;first|exact dn c3|(
     have d3:=c3;try simp at d3
     have e3:0<i/\byE (nth S (i - 1)) (nth S i)=0:=(by simp at c2 c3;omega);obtain⟨init,x,ho,hold,_⟩:=qA7 qCu hS hi e3.1 (by rw[zN6];have:=e3.2;unfold byE at this;omega);obtain rfl:out=init++[x]:=hi2.symm.trans ho;have hil:init.length<2000000:=(by rw[List.length_append] at hol;omega);obtain⟨L,hL⟩:∃L,L=init.length:=⟨_,rfl⟩;have g3:(erT (init++[x]))[L]? = some (V.agg [.lst true 1 (ints x.row),.int .i64 x.w]):=(by subst hL;simp[erT,ets,Et.v,Er.e,lz]);have g4:(erT (init++[x])).set L (V.agg [.lst true 1 (ints x.row),.int .i64 (IntKind.i64.wrap (x.w+(nth S i).w))])=erT (init++[zKs x (nth S i)]):=(by subst hL;simp[erT,ets,Et.v,Er.e,zKs,lz]);refine zC ?_)
   rotate_right 1
   focus
    intro c3;first|exact dn c3|(
     have d3:=c3;try simp at d3
     have e3:i=0\/byE (nth S (i - 1)) (nth S i)≠0:=(by first|(left;simp at c2;omega)|(right;simpa using c3));have hnew:=zYx qCu hS hi (e3.imp id (fun h=>qBw hS hi h));rw[hi2] at hnew;obtain⟨L,hL⟩:∃L,L=out.length:=⟨_,rfl⟩;have hrow:=(nth S i).ok;have g3:(erT out++[V.agg [.lst true 1 (ints (nth S i).row),.int .i64 0]])[L]? = some (V.agg [.lst true 1 (ints (nth S i).row),.int .i64 0]):=(by subst hL;rw[List.getElem?_append_right (by simp)];simp);have g4:(erT out++[V.agg [.lst true 1 (ints (nth S i).row),.int .i64 0]]).set L (V.agg [.lst true 1 (ints (nth S i).row),.int .i64 (nth S i).w])=erT (out++[nth S i]):=(by subst hL;rw[List.set_append_right _ _ (by simp)];simp[erT,ets,Et.v,Er.e,lz]);have hn0:=hn i hi;refine zB (wM (h:=w_ (f_ (h:=w_ (l_ (h:=w_ (ca (hc:=zQe (nth S i).row hrow) (h:=w_ (bd (h:=w_ (bs (h:=w_ (ap (h:=W3 (h:=nE (h:=?_))))))))))))))))))
  all_goals first
  | (
   refine zA ?_;refine qE (yM (h:=yM (h:=y_ (le (h:=ax_ (h:=y_ ?_))))));refine b_ (hv:=jZ (c:=L) (by simp;omega) (by omega)) (h:=?_);refine ax_ (h:=y_ (x_ (h:=ax_ (h:=y_ (f_ (h:=ax_ (h:=y_ (l_ (h:=ax_ (h:=y_ (f_ (h:=ax_ (h:=y_ (l_ (h:=ax_ (h:=y_ (b_ (h:=ax_ (h:=y_ (x_ (h:=ax_ (h:=y_ (f_ (h:=ax_ (h:=y0 (s_ (h:=ax_ (h:=qO (ed (h:=?_)))))))))))))))))))))))))))))))
  all_goals refine zI ?_
  all_goals first
  | (
   refine zA ?_;refine zB (w_ (b_ (h:=wM (h:=nE (h:=?_)))))))
 all_goals first
 | (refine(ih ((i+1,out++[nth S i])) (⟨by simp only;omega,by simp only;rw[hnew]⟩) ?_ _ ?_).trans ?_;(focus (first|omega|(simp;done)|(simp;omega)));(focus (simp[zH,hw,g4,hn0,Er.e];done));(focus (rfl)))
 | (refine(ih ((i+1,init++[zKs x (nth S i)])) (⟨by simp only;omega,by simp only;rw[hold]⟩) ?_ _ ?_).trans ?_;(focus (first|omega|(simp;done)|(simp;omega)));(focus (simp[zH,hw,g4,Er.e];done));(focus (rfl)))
 | (apply zP (ex:=(Ext.exit 0)) 1 (some [5]);(focus (simp[zH];rfl));(focus (rw[<-hi2,List.take_of_length_le (by simp at c1;omega)])))
def zSx (t:List Er):List Er×Int:=if t.any zHy=true then([],8) else if 200<(t.filter zD7).length then([],2) else(t.filter zD7,0)
theorem zQw:∀(t:List Er),(t.filter zD7).any zHy=t.any zHy
 | []=>rfl
 | c::t=>by
  have ih:=zQw t;rw[List.filter_cons,List.any_cons]
  by_cases h:zD7 c=true
  ·rw[if_pos h,List.any_cons,ih]
  ·rw[if_neg h,ih]
   have h0:c.w=0:=by simpa [zD7] using h
   have:zHy c=false:=by simp[zHy,h0,inI]
   rw[this];rfl
theorem zZl (l:List Er) (hl:l.length<1000000) (hn:∀x∈l,IntKind.i64.wrap x.w=x.w):oc.call 60 [.lst false 0 (ers l)]=some (.tup [.lst true 2 (erT (zSx (l.foldl zHr [])).1),.int .i64 (zSx (l.foldl zHr [])).2],[]):=by
 refine qA rfl cd60 rfl rfl rfl (by simp;rfl) (by simp;rfl) ?_;have hpp:=(zT9 zO4 l).1;have hse:=zMh qCu hpp [];obtain⟨T,hT⟩:∃T,l.foldl zHr []=T:=⟨_,rfl⟩;have hse:=hse.trans hT;have hTl:T.length<1000000:=by have:=zG9 (lt:=ltE) (add:=zKs) (S:=l) (acc:=[]);rw[hT] at this;simp at *;omega
 have hFl:(T.filter zD7).length<1000000:=Nat.lt_of_le_of_lt (List.length_filter_le _ _) hTl;have hrun:=qI2 (stb ltE l) (by have:=(zT9 zO4 l).2;rwa [<-hpp.length_eq] at this) (by rw[hpp.length_eq];omega) (fun i hi=>hn _ (hpp.mem_iff.1 (qEc hi))) (0,[]) ⟨by simp,by simp⟩;rw[hse] at hrun;have hpl:(stb ltE l).length=l.length:=hpp.length_eq;have hcl:oc.call 121 [.lst false 0 (ers l)]=some (.lst true 2 (ers l),[]):=zZq (l.map Er.e) (by simp;omega);have hsh:∀q,V.shareL (erT q)=ers q:=fun q=>by simp[erT,ers]
 refine wa_ (zB (w_ (aN (h:=W3 (h:=nE (h:=zA (wa_ (zB (wM (h:=w_ (ca (hc:=hcl) (h:=w_ (bs (h:=W3 (h:=?_)))))))))))))));refine W3 (h:=nE (h:=zA (wa_ (zB (wM (h:=w_ ?_))))));refine cI (hc:=qA9 l (by omega)) (hal:=yR hpp.length_eq.symm) (h:=?_);refine nE (h:=zA (wa_ (wa_ (zB (wM (h:=w_ (le (h:=wM (h:=nE (h:=zA (zG ?_)))))))))));refine qH (hrun _ (by simp[zH,hpl,erT])) ?_;refine zS (zA (wa_ (zB (wM (h:=w_ ?_)))));refine caT (hc:=qEr T (by omega)) (h:=?_);refine W3 (h:=nE (h:=zA (wa_ (zG (wa_ (zB (wM (h:=w_ (ca (hc:=zS4 (T.filter zD7) zHy (by omega) (fun x _=>qKj x)) (h:=W3 (h:=nE (h:=zA ?_))))))))))));refine c_ (h1:=?_) (h2:=?_)
 rotate_right 1
 focus
  intro c1;first|exact dn c1|(
   have d1:=c1;try simp at d1
   refine wa_ (zB (wM (h:=w_ (le (h:=w_ (b_ (h:=W3 (h:=nE (h:=zA ?_)))))))));refine c_ (h1:=?_) (h2:=?_)
   rotate_right 1
   focus
    intro c2;first|exact dn c2|(
     have d2:=c2;try simp at d2
     refine zC ?_)
   rotate_right 1
   focus
    intro c2;first|exact dn c2|(
     have d2:=c2;try simp at d2
     refine wa_ (zB (w_ (aN (h:=W3 (h:=nE (h:=zA (zF ?_)))))))))
 rotate_right 1
 focus
  intro c1;first|exact dn c1|(
   have d1:=c1;try simp at d1
   refine wa_ (zB (w_ (aN (h:=W3 (h:=nE (h:=zA (zF ?_))))))))
 all_goals first|refine zI ?_|refine zX ?_
 all_goals first|refine zK ?_|(
  refine zA ?_;refine wa_ (zB (wM (h:=W3 (h:=W3 (h:=nE (h:=zA (zF ?_))))))))
 all_goals (refine qX (hr:=(zL rfl (zL rfl zM))) (h:=?_);(focus (rw[hT];unfold zSx;rw[<-zQw];first|(simp[*];done)|(rw[if_neg (by simp[*]),if_pos (by first|assumption|omega|(simp at *;omega))];simp;done)|(rw[if_neg (by simp[*]),if_neg (by first|assumption|omega|(simp at *;omega))];simp;done))))
end Go.Proofs.YtbcgenkegnmkhaaGreat.Ev
namespace Go.Proofs.YtbcgenkegnmkhaaGreat.Ev
open Go
set_option maxRecDepth 100000
set_option linter.unusedSimpArgs false
set_option linter.unusedVariables false
set_option maxHeartbeats 2000000
section
variable {id base : Nat} {e : List (Nat × V)} {o : List (Nat × Ob)} {n : Nat} {t : TypeId} {K : V->List (Nat × Ob)->Prop}
theorem caU {args:Array Operand} {ts:Array TypeId} {fo:Operand} {f:FuncId} {q m sz:Nat} {ys:List V} {v:V} {ob:Ob} {o1:List (Nat×Ob)} {id':Nat} (hx:kW e args.toList=some [.ref q 0 m,v]:=by exact rfl) (hf:opV e fo=some (.clo f []):=by exact rfl) (hB:cf.inB f=false:=by(rw[zFc];rfl)) (hmd:cf.md f=[.take]:=by(rw[zB7];rfl)) (ho:zO o q=some ob:=by exact rfl) (hb:ob.bx=false:=by rfl) (hfx:ob.fx=false:=by rfl) (hm:m=ob.xs.length:=by first|rfl|simp) (hd:kT o q=o1:=by(simp;rfl))
  (hv:v.isTup=false:=by first|rfl|simp) (hvm:v.mention=[]:=by first|rfl|simp) (hvs:∀s:St,V.snapA s v=some v:=by intro s;first|rfl|simp)
  (hc:oc.call f [.lst true ob.sz ob.xs,v]=some (.lst true sz ys,[])) (hid:id=id':=by((try simp);rfl)) (h:K (.ref id' 0 ys.length) ((id',⟨false,false,sz,ys,0⟩)::o1)):opK oc.call cf id base e o n t (.call ⟨.value fo,args,ts⟩) K:=by
 subst hd hm hid;refine⟨_,_,?_,h⟩
 have hg:St.give ⟨e,o,n⟩ q 0 ob.xs.length=some (ob.sz,ob.xs,⟨e,kT o q,n⟩):=by
  simp only[St.give,ho,hb,hfx,Nat.zero_add,Nat.le_refl,and_self,if_true,List.drop_zero,List.take_length]
 have hz:V.fz (.ref q 0 ob.xs.length) ⟨e,o,n⟩=some (.lst true ob.sz ob.xs,⟨e,kT o q,n⟩):=by
  simp only[V.fz,hg,zJ]
 have hs:V.snapA ⟨e,kT o q,n⟩ v=some v:=hvs _;simp only[opE,hx,hf,V.capsOk,if_true,hB,Bool.false_eq_true,if_false,List.append_nil,xM,hmd,jW,qU,List.headD_cons,List.tail_cons,List.headD_nil,List.tail_nil,hz,V.argOk,hv,jI,hs,zJ,hc,xU,hvm,List.isEmpty_nil,true_or,V.thaw,true_and,vV,List.nil_append,List.singleton_append];rw[if_pos (by omega)]
end
@[simp] theorem zNs (xs:List V):yZ 0 0 xs=xs:=by cases xs<;>rfl
theorem zIj:∀(p:Nat) (xs:List V),(yZ 0 p xs).drop p=xs.drop p
 | 0,xs=>by rw[zNs]
 | p+1,[]=>rfl
 | p+1,x::r=>by simp only[yZ,List.drop_succ_cons,zIj p r]
attribute [simp] zE7
@[simp] theorem qMg (l:List Er):V.cellsAll 2 (erT l)=true:=by
 induction l with
 | nil=>rfl
 | cons x r ih =>
  show(decide (V.cells _=2)&&V.cellsAll 2 (erT r))=true;rw[ih];rfl
@[simp] theorem erT_drop (n:Nat) (l:List Er):(erT l).drop n=erT (l.drop n):=by simp[erT]
theorem zNh (l m:List Er):erT (l++m)=erT l++erT m:=by simp[erT]
theorem zZ5 (c:Er) (l:List Er):erT (c::l)=V.agg [.lst true 1 (ints c.row),.int .i64 c.w]::erT l:=rfl
theorem zWe (c:Er):erT [c]=[V.agg [.lst true 1 (ints c.row),.int .i64 c.w]]:=rfl
theorem zNd {l:List Er} {i:Nat} (h:i<l.length):∃x,nth l i=x/\l.drop i=x::l.drop (i+1)/\(erT l)[i]? = some (V.agg [.lst true 1 (ints x.row),.int .i64 x.w]):=by
 refine⟨l[i],by simp[nth,h],List.drop_eq_getElem_cons h,?_⟩;simp[erT,ets,h,Et.v,Er.e,lz]
theorem qFq {l:List Er} {i:Nat} {x:Er} {w:Int}:(erT l).set i (V.agg [.lst true 1 (ints x.row),.int .i64 w])=erT (l.set i ⟨x.row,w,x.ok⟩):=by simp[erT,List.map_set,Er.e]
theorem qEi {v w:V} {s s':St} (h:V.fz v s=some (w,s')):V.fzL ([((0:Nat),v)].map (·.2)) s=some ([w],s'):=by simp[V.fzL,h,mp]
theorem l_l2p (l:List Er) (c:Er) (hq:l.length<2000000):∀j:Nat,(j<=l.length)->∀s,zH 2 (some [0,3,5]) s=⟨[(0,.ref 0 0 l.length),(3,.ptr 2 0 []),(5,.int .i64 j)],[(0,⟨false,false,2,erT l,0⟩),(2,⟨true,false,2,[c.e.v false],0⟩)],3⟩ ->
 oc.loop 169 2 s=some (.exit 0,⟨[(0,.ref 0 0 l.length),(3,.ptr 2 0 []),(5,.int .i64 (j+zFf ltE (l.drop j) c:Nat))],[(0,⟨false,false,2,erT l,0⟩),(2,⟨true,false,2,[c.e.v false],0⟩)],3⟩):=by
 refine zV (σ:=Nat) (fun j=>l.length - j) _ (fun j=>⟨[(0,.ref 0 0 l.length),(3,.ptr 2 0 []),(5,.int .i64 j)],[(0,⟨false,false,2,erT l,0⟩),(2,⟨true,false,2,[c.e.v false],0⟩)],3⟩) _ ?_;intro j hi ih s hs;refine qD qK1 rfl rfl hs ?_;refine wa_ (wa_ (qE (yM (h:=yM (h:=y_ (le (h:=ax_ (h:=y_ (b_ (h:=ax_ (h:=yM (h:=?_))))))))))));refine gw_ (h1:=?_) (h2:=?_)
 rotate_right 1
 focus
  intro c1;first|exact dn c1|(
   have d1:=c1;try simp at d1
   refine gd_ (h:=gd_ (h:=gd_ (h:=gd_ (h:=gd_ (h:=gd_ (h:=gd_ (h:=gd_ (h:=gd_ (h:=?_))))))))))
 rotate_right 1
 focus
  intro c1;first|exact dn c1|(
   have d1:=c1;try simp at d1
   have hj:j<l.length:=(by simp at c1;omega);have hw:=zU (i:=j) (by omega);obtain⟨x,hnx,e1,g1⟩:=zNd hj;refine g_ (h:=yM (h:=g_ (h:=yM (h:=g_ (h:=y_ (x_ (h:=ax_ (h:=g_ (h:=y_ (f_ (h:=ax_ (h:=g_ (h:=y_ (l_ (h:=ax_ (h:=g_ (h:=y_ (f_ (h:=ax_ (h:=g_ (h:=y_ (l_ (h:=ax_ (h:=g_ (h:=y_ ?_)))))))))))))))))))))))));refine ca (hsr:=by first|rfl|(simp[g1,Er.e];done)) (hc:=zNv x.row c.row x.ok c.ok) (h:=?_);refine ax_ (h:=g_ (h:=y_ (b_ (h:=ax_ (h:=?_))))))
 all_goals
  refine y_ (pk (h:=ax_ (h:=qO (ed (h:=?_)))))
 all_goals first
 | (
  refine zA ?_;refine c_ (h1:=?_) (h2:=?_)
  rotate_right 1
  focus
   intro c2;first|exact dn c2|(
    have d2:=c2;try simp at d2
    refine zW ?_)
  rotate_right 1
  focus
   intro c2;first|exact dn c2|(
    have d2:=c2;try simp at d2
    refine zC ?_))
 all_goals first|refine zR ?_|(
  refine zA ?_;refine zG (zB (wM (h:=w_ (b_ (h:=W3 (h:=nE (h:=zI ?_))))))))
 all_goals first
 | (apply zP (ex:=(Ext.exit 0)) 2 (some [0,3,5]);(focus (simp[zH];rfl));(focus (first|(rw[List.drop_eq_nil_of_le (by simp at c1;omega)];rfl)|(rw[e1,zR7 (by rw[zN6];simpa using d2)];rfl))))
 | (refine(ih (j+1) (by omega) ?_ _ ?_).trans ?_;(focus (first|omega|(simp;done)|(simp;omega)));(focus (simp[zH,hw];done));(focus (rw[e1,zQx (by rw[zZo];simpa using d2),show j+(zFf ltE (l.drop (j+1)) c+1)=j+1+zFf ltE (l.drop (j+1)) c by omega])))
theorem qCt (l:List Er) (c:Er) (hq:l.length<1900000):oc.call 169 [.lst true 2 (erT l),c.e.v false]=some (.lst true 2 (erT (zHr l c)),[]):=by
 refine qA rfl qK1 rfl rfl rfl (by simp;rfl) (by simp;rfl) ?_;have hls:=l_l2p l c (by omega) 0 (by omega);simp only[List.drop_zero,Nat.zero_add] at hls;obtain⟨p,hp⟩:∃p,zFf ltE l c=p:=⟨_,rfl⟩;rw[hp] at hls;have hpl:p<=l.length:=by rw[<-hp];exact zVi (lt:=ltE) l c
 have hpn:p<l.length->ltE (nth l p) c=false:=fun h=>by have:=zV6 (lt:=ltE) l c (by rw[hp];exact h);rwa [hp] at this
 refine wa_ (zB (w_ (bx (h:=w_ (aN (h:=nE (h:=zA (wa_ (zB (W3 (h:=nE (h:=zA (wa_ ?_)))))))))))));refine zG ?_;refine qH (hls _ (by simp[zH])) ?_;refine zS (zA (wa_ (wa_ (qE (yM (h:=yM (h:=y_ (le (h:=ax_ (h:=y_ (b_ (h:=ax_ (h:=yM (h:=?_))))))))))))));refine gw_ (h1:=?_) (h2:=?_)
 rotate_right 1
 focus
  intro c1;first|exact dn c1|(
   have d1:=c1;try simp at d1
   refine gd_ (h:=gd_ (h:=gd_ (h:=gd_ (h:=gd_ (h:=gd_ (h:=gd_ (h:=gd_ (h:=gd_ (h:=?_))))))))))
 rotate_right 1
 focus
  intro c1;first|exact dn c1|(
   have d1:=c1;try simp at d1
   have hpq:p<l.length:=(by simp at c1;omega);obtain⟨x,hnx,e1,g1⟩:=zNd hpq;have hxc:=hpn hpq;rw[hnx,zN6] at hxc;refine g_ (h:=yM (h:=g_ (h:=yM (h:=g_ (h:=y_ (x_ (h:=ax_ (h:=g_ (h:=y_ (f_ (h:=ax_ (h:=g_ (h:=y_ (l_ (h:=ax_ (h:=g_ (h:=y_ (f_ (h:=ax_ (h:=g_ (h:=y_ (l_ (h:=ax_ (h:=g_ (h:=y_ ?_)))))))))))))))))))))))));refine ca (hsr:=by first|rfl|(simp[g1,Er.e];done)) (hc:=zNv x.row c.row x.ok c.ok) (h:=?_);refine ax_ (h:=g_ (h:=y_ (bE (h:=ax_ (h:=?_))))))
 all_goals
  refine y_ (pk (h:=ax_ (h:=qO (ed (h:=?_)))))
 all_goals first
 | (
  refine zA ?_;refine c_ (h1:=?_) (h2:=?_)
  rotate_right 1
  focus
   intro c2;first|exact dn c2|(
    have d2:=c2;try simp at d2
    have k1:p<l.length->ltE c (nth l p)=true:=(fun h=>by first|(exfalso;simp at c1;omega)|(rw[hnx,zZo,kX];first|omega|(simp at d2;omega)));have k2:zHr l c=l.take p++[c]++l.drop p:=(by have:=zVr (lt:=ltE) (add:=zKs) l c (by rw[hp];exact k1);rw[hp] at this;exact this);have hroc:=c.ok;have km:min p l.length=p:=(by omega);have kl:1+l.length=l.length+1:=Nat.add_comm ..;have kq:p+1+(l.length - p)=p+(l.length - p+1):=(by omega);have k9:(l.drop p).take (l.length - p)=l.drop p:=(by rw[List.take_of_length_le (by simp)]);have kmd:=zIj p (erT l);have kA:l.take l.length=l:=List.take_of_length_le (by simp);have kB:(l.take p).take p=l.take p:=(by rw[List.take_take,Nat.min_self]);have kC:(erT (l.take p)++[V.agg [.lst true 1 (ints c.row),.int .i64 c.w]]).take (p+1)=erT (l.take p)++[V.agg [.lst true 1 (ints c.row),.int .i64 c.w]]:=List.take_of_length_le (by simp;omega);have kD:(erT (l.take p)++V.agg [.lst true 1 (ints c.row),.int .i64 c.w]::erT (l.drop p)).take (p+(l.length - p+1))=erT (l.take p)++V.agg [.lst true 1 (ints c.row),.int .i64 c.w]::erT (l.drop p):=List.take_of_length_le (by simp;omega);have kE:(erT l++[V.agg [.lst true 1 (ints c.row),.int .i64 c.w]]).take (l.length+1)=erT l++[V.agg [.lst true 1 (ints c.row),.int .i64 c.w]]:=List.take_of_length_le (by simp);have kF:l.drop l.length=[]:=List.drop_eq_nil_of_le (by simp);have kM:p=0->yZ 0 p (erT l)=erT l:=(fun e=>by rw[e,zNs]);rcases(show p=0\/(0<p/\p<l.length)\/(0<p/\p=l.length) by omega) with hp0|hp0|hp0
    all_goals
     refine zC ?_)
  rotate_right 1
  focus
   intro c2;first|exact dn c2|(
    have d2:=c2;try simp at d2
    have k1:ltE c x=false:=(by rw[zN6,kX,show vT x.row c.row=0 by simpa using d2];decide);have k2:zHr l c=l.set p (zKs x c):=(by have:=zWs (lt:=ltE) (add:=zKs) l c (by rw[hp];exact hpq) (by rw[hp,hnx];exact k1);rw[hp,hnx] at this;exact this);have kz:∀y,(l.set p y).take l.length=l.set p y:=(fun y=>List.take_of_length_le (by simp));refine wa_ (qE (yM (h:=yM (h:=yM (h:=yM (h:=y_ (x_ (h:=ax_ (h:=y_ (f_ (h:=ax_ (h:=y_ (l_ (h:=ax_ (h:=y_ (f_ (h:=ax_ (h:=y_ (l_ (h:=ax_ (h:=y_ (b_ (h:=ax_ (h:=?_))))))))))))))))))))))));refine y_ (x_ (h:=ax_ (h:=y_ (f_ (h:=ax_ (h:=y0 (s_ (h:=ax_ (h:=qO (ed (h:=zA (wa_ (zB (wM (h:=W3 (h:=nE (h:=zA (zF ?_))))))))))))))))))))
 all_goals first|refine zK ?_|(
  refine zA ?_;refine wa_ (qE (y_ (bs (h:=ax_ (h:=yM (h:=yM (h:=y_ (sl (h:=ax_ (h:=y_ ?_))))))))));refine ap (hel2:=if_pos (by first|omega|(simp;omega))) (h:=?_);refine ax_ (h:=y_ (f_ (h:=ax_ (h:=y_ (l_ (h:=ax_ (h:=y_ (ca (hc:=zWb c.row hroc) (h:=ax_ (h:=y_ (f_ (h:=ax_ (h:=y_ (l_ (h:=ax_ (h:=y_ (bd (h:=ax_ (h:=y_ (bs (h:=ax_ (h:=y_ (ap (h:=ax_ (h:=yM (h:=yM (h:=y_ ?_)))))))))))))))))))))))))))
  first|refine sl (v:=.ref 0 p (l.length - p)) (hv:=zWn rfl (by omega) (by omega) rfl rfl) (h:=?_)|refine sl (v:=.lst false 0 []) (hv:=qF2 rfl (by omega) (by omega)) (h:=?_)|refine sl (v:=.ref 0 0 l.length) (hv:=zXd rfl (by omega)) (h:=?_)
  refine ax_ (h:=y_ ?_)
  first|refine ap (hel:=by(simp[kmd];rfl)) (hel2:=if_pos (by first|omega|(simp;omega))) (h:=?_)|refine ap (hel:=by(simp[zNs,hp0];rfl)) (h:=?_)|refine ap (h:=?_)
  refine ax_ (h:=y_ (a_ (h:=ax_ (h:=qO (ed (h:=zA (zF ?_))))))))
 all_goals (refine qX (hr:=(zL rfl zM)) (h:=?_);(focus (first|(simp[k2,qFq,kz,zKs,Er.e,lz];done)|(rw[k2,zNh,zNh,zWe];simp[km,kl,kq,k9,hp0,kA,kB,kC,kD,kE,kF,Er.e,Et.v,lz];done))))
theorem l_l2s (z:List Er) (hz:z.length<1800000):∀x:Nat×(List Er),(x.1<=z.length/\x.2.length<=x.1)->∀s,zH 1 (some [0,4,5]) s=⟨[(0,.lst false 0 (ers z)),(4,.ref 1 0 x.2.length),(5,.int .i64 x.1)],[(1,⟨false,false,2,erT x.2,0⟩)],2⟩ ->
 oc.loop 100 3 s=some (.exit 0,⟨[(4,.ref 1 0 ((z.drop x.1).foldl zHr x.2).length)],[(1,⟨false,false,2,erT ((z.drop x.1).foldl zHr x.2),0⟩)],2⟩):=by
 refine zV (σ:=Nat×(List Er)) (fun x=>z.length - x.1) _ (fun x=>⟨[(0,.lst false 0 (ers z)),(4,.ref 1 0 x.2.length),(5,.int .i64 x.1)],[(1,⟨false,false,2,erT x.2,0⟩)],2⟩) _ ?_;rintro⟨i,q⟩ hi ih s hs;simp only at hi;refine qD qEa rfl rfl hs ?_;obtain⟨hi1,hi2⟩:=hi;refine wa_ (wa_ (zB (wM (h:=wM (h:=w_ (le (h:=w_ (b_ (h:=nE (h:=zA ?_))))))))));refine c_ (h1:=?_) (h2:=?_)
 rotate_right 1
 focus
  intro c1;first|exact dn c1|(
   have d1:=c1;try simp at d1
   refine zW ?_)
 rotate_right 1
 focus
  intro c1;first|exact dn c1|(
   have d1:=c1;try simp at d1
   have hj:i<z.length:=(by simp at c1;omega);have hw:=zU (i:=i) (by omega);obtain⟨c,hx,e1,g1⟩:=zJv (l:=z) (i:=i) (by omega);have hpl:=zKf (lt:=ltE) (add:=zKs) q c;change (zHr q c).length<=_ at hpl;refine zC ?_)
 all_goals first|refine zR ?_|(
  refine zA ?_;refine wa_ (zG (zB (wM (h:=wM (h:=wM (h:=w_ (x_ (h:=w_ (l_ (h:=w_ ?_))))))))));refine caU (hc:=qCt q c (by omega)) (h:=?_);refine W3 (h:=nE (h:=zI (zA (zB (wM (h:=w_ (b_ (h:=W3 (h:=nE (h:=?_)))))))))))
 all_goals first
 | (apply zP (ex:=(Ext.exit 0)) 1 (some [4]);(focus (simp[zH];rfl));(focus (rw[List.drop_eq_nil_of_le (by simp at c1;omega)];rfl)))
 | (refine(ih ((i+1,zHr q c)) (⟨by simp only;omega,by simp only;omega⟩) ?_ _ ?_).trans ?_;(focus (first|omega|(simp;done)|(simp;omega)));(focus (simp[zH,hw];done));(focus (rw[e1];rfl)))
def zK1:List Er->List Er->Bool×List Er
 | [],o=>(false,o)
 | c::r,o=>if zHy c=true then(true,o) else if c.w=0 then zK1 r o else zK1 r (o++[c])
theorem qBa {c:Er} {r o:List Er} (h:zHy c=true):zK1 (c::r) o=(true,o):=by rw[zK1,if_pos h]
theorem qBi {c:Er} {r o:List Er} (h:zHy c=false) (h0:c.w=0):zK1 (c::r) o=zK1 r o:=by rw[zK1,if_neg (by simp[h]),if_pos h0]
theorem qAw {c:Er} {r o:List Er} (h:zHy c=false) (h0:¬c.w=0):zK1 (c::r) o=zK1 r (o++[c]):=by rw[zK1,if_neg (by simp[h]),if_neg h0]
theorem zO3:∀(t o:List Er),(zK1 t o).1=t.any zHy/\(t.any zHy=false->(zK1 t o).2=o++t.filter zD7)
 | [],o=>by simp[zK1]
 | c::t,o=>by
  rw[List.any_cons,List.filter_cons]
  by_cases h:zHy c=true
  ·rw[qBa h];simp[h]
  ·have hb:zHy c=false:=by simpa using h
   by_cases h0:c.w=0
   ·rw[qBi hb h0,hb,if_neg (by simp[zD7,h0])];simpa using zO3 t o
   ·rw[qAw hb h0,hb,if_pos (by simp[zD7,h0])];simpa using zO3 t (o++[c])
theorem zXj (o:List Er) (x:Er):erT o++[V.agg [.lst true 1 (ints x.row),.int .i64 x.w]]=erT (o++[x]):=by rw[zNh,zWe]
theorem l_l2f (q:List Er) (hq:q.length<2000000):∀x:Nat×(List V)×(List Er),(x.1<=q.length/\x.2.1.length=q.length/\x.2.1.drop x.1=erT (q.drop x.1)/\x.2.2.length<=x.1)->∀s,zH 1 (some [4,6,7]) s=⟨[(4,.ref 1 0 q.length),(6,.ref 2 0 x.2.2.length),(7,.int .i64 x.1)],[(1,⟨false,false,2,x.2.1,0⟩),(2,⟨false,false,2,erT x.2.2,0⟩)],3⟩ ->
 oc.loop 100 8 s=some (if(zK1 (q.drop x.1) x.2.2).1=true then(.ret,⟨[(2,.lst true 2 []),(3,.int .i64 8),(6,.ref 1 0 (zK1 (q.drop x.1) x.2.2).2.length)],[(1,⟨false,false,2,erT (zK1 (q.drop x.1) x.2.2).2,0⟩)],2⟩) else(.exit 2,⟨[(6,.ref 1 0 (zK1 (q.drop x.1) x.2.2).2.length)],[(1,⟨false,false,2,erT (zK1 (q.drop x.1) x.2.2).2,0⟩)],2⟩)):=by
 refine zV (σ:=Nat×(List V)×(List Er)) (fun x=>q.length - x.1) _ (fun x=>⟨[(4,.ref 1 0 q.length),(6,.ref 2 0 x.2.2.length),(7,.int .i64 x.1)],[(1,⟨false,false,2,x.2.1,0⟩),(2,⟨false,false,2,erT x.2.2,0⟩)],3⟩) _ ?_;rintro⟨i,R,o⟩ hi ih s hs;simp only at hi;refine qD qEa rfl rfl hs ?_;obtain⟨hi1,hi2,hi3,hi4⟩:=hi;refine wa_ (wa_ (zB (wM (h:=wM (h:=w_ (le (h:=w_ (b_ (h:=nE (h:=zA ?_))))))))));refine c_ (h1:=?_) (h2:=?_)
 rotate_right 1
 focus
  intro c1;first|exact dn c1|(
   have d1:=c1;try simp at d1
   refine zW ?_)
 rotate_right 1
 focus
  intro c1;first|exact dn c1|(
   have d1:=c1;try simp at d1
   have hj:i<q.length:=(by simp at c1;omega);have hw:=zU (i:=i) (by omega);obtain⟨x,hnx,e1,_⟩:=zNd hj;have g1:R[i]? = some (V.agg [.lst true 1 (ints x.row),.int .i64 x.w]):=(by have:=congrArg (fun r=>r[0]?) hi3;rw[e1] at this;simpa [erT,ets,Et.v,Er.e,lz] using this);have e2:R.drop (i+1)=erT (q.drop (i+1)):=(by have:=congrArg (List.drop 1) hi3;rw[e1,zZ5] at this;simpa using this);have hmt:=zXj o x;refine zC ?_)
 all_goals first|refine zR ?_|(
  refine zA ?_;refine wa_ (zG (wa_ (wa_ (zB (wM (h:=wM (h:=w_ (x_ (h:=w_ (f_ (h:=w_ (l_ (h:=w_ (ca (hc:=zI7 _) (h:=w_ (u_ (h:=?_)))))))))))))))));refine nE (h:=zA ?_);refine c_ (h1:=?_) (h2:=?_)
  rotate_right 1
  focus
   intro c2;first|exact dn c2|(
    have d2:=c2;try simp at d2
    refine zC ?_)
  rotate_right 1
  focus
   intro c2;first|exact dn c2|(
    have d2:=c2;try simp at d2
    refine wa_ (zB (w_ (aN (h:=W3 (h:=nE (h:=zA (zF ?_))))))))
  all_goals first|refine zK ?_|(
   refine zA ?_;refine wa_ (zB (wM (h:=wM (h:=w_ (x_ (h:=w_ (f_ (h:=w_ (l_ (h:=w_ (bE (h:=nE (h:=zA ?_)))))))))))));refine c_ (h1:=?_) (h2:=?_)
   rotate_right 1
   focus
    intro c3;first|exact dn c3|(
     have d3:=c3;try simp at d3
     refine zC ?_)
   rotate_right 1
   focus
    intro c3;first|exact dn c3|(
     have d3:=c3;try simp at d3
     refine zB (wM (h:=wM (h:=wM (h:=w_ (x_ (h:=w_ (l_ (h:=w_ ?_))))))));refine bs (hf:=qEi (qAl rfl rfl g1 (by simp))) (h:=?_);refine w_ (ap (h:=W3 (h:=nE (h:=?_))))))
  all_goals first|refine zI ?_|refine zX ?_
  all_goals first|refine zK ?_|(
   refine zA ?_;refine zB (wM (h:=w_ (b_ (h:=W3 (h:=nE (h:=?_))))))))
 all_goals first
 | (apply zP (ex:=(Ext.exit 2)) 1 (some [2,3,6]);(focus (simp[zH];rfl));(focus (rw[List.drop_eq_nil_of_le (by simp at c1;omega)];rfl)))
 | (apply zP (ex:=Ext.ret) 1 (some [2,3,6]);(focus (simp[zH];rfl));(focus (rw[e1,qBa (by simpa [zHy] using d2)];rfl)))
 | (refine(ih ((i+1,R,o)) (⟨by simp only;omega,hi2,e2,by simp only;omega⟩) ?_ _ ?_).trans ?_;(focus (first|omega|(simp;done)|(simp;omega)));(focus (simp[zH,hw];done));(focus (rw[e1,qBi (by simpa [zHy] using d2) (by simpa using d3)])))
 | (refine(ih ((i+1,R.set i (.agg [.und,.int .i64 x.w]),o++[x])) (⟨by simp only;omega,by simpa using hi2,by simp only;rw[List.drop_set_of_lt (by omega)];exact e2,by simp;omega⟩) ?_ _ ?_).trans ?_;(focus (first|omega|(simp;done)|(simp;omega)));(focus (simp[zH,hw,hmt];done));(focus (rw[e1,qAw (by simpa [zHy] using d2) (by simpa using d3)])))
theorem qCh (z:List Er) (hz:z.length<1800000):oc.call 100 [.lst false 0 (ers z)]=some (.tup [.lst true 2 (erT (zSx (z.foldl zHr [])).1),.int .i64 (zSx (z.foldl zHr [])).2],[]):=by
 refine qA rfl qEa rfl rfl rfl (by simp;rfl) (by simp;rfl) ?_;obtain⟨T,hT⟩:∃T,z.foldl zHr []=T:=⟨_,rfl⟩;have hTl:T.length<1900000:=by have h2:=zG9 (lt:=ltE) (add:=zKs) (S:=z) (acc:=[]);change (z.foldl zHr []).length<=_ at h2;rw[hT] at h2;simp at h2;omega
 have hl3:=l_l2s z hz (0,[]) ⟨by simp,by simp⟩;have hl8:=l_l2f T (by omega) (0,erT T,[]) ⟨by simp,by simp,by simp,by simp⟩;simp only[List.drop_zero,hT] at hl3 hl8;obtain⟨b,O,hbo⟩:∃b O,zK1 T []=(b,O):=⟨_,_,rfl⟩;obtain⟨q1,q2⟩:=zO3 T [];rw[hbo] at hl8 q1 q2;simp only[List.nil_append] at hl8 q1 q2;have ha:zSx T=if b=true then([],8) else if 200<O.length then([],2) else(O,0):=by cases b with|true=>(unfold zSx;rw[<-q1];try rfl)|false=>(unfold zSx;rw[<-q1,q2 q1.symm];try rfl)
 clear q1 q2 hbo
 refine wa_ (zB (w_ (aN (h:=W3 (h:=nE (h:=zA (wa_ (zB (w_ (bs (h:=W3 (h:=nE (h:=zA ?_)))))))))))));refine wa_ (wa_ (zB (W3 (h:=nE (h:=zA (zG ?_))))));refine qH (hl3 _ (by simp[zH])) ?_;refine zS (zA (wa_ (zB (w_ (bs (h:=W3 (h:=nE (h:=zA (wa_ (wa_ (zB (W3 (h:=?_)))))))))))));refine nE (h:=zA (zG ?_));refine qY (hl8 _ (by simp[zH])) ?_ ?_
 rotate_right 1
 focus
  intro c1;first|exact dn c1|(
   have d1:=c1;try simp at d1
   skip)
 rotate_right 1
 focus
  intro c1;first|exact dn c1|(
   have d1:=c1;try simp at d1
   skip)
 all_goals first|refine zX ?_|refine zS ?_
 all_goals first|refine zK ?_|(
  refine zA ?_;refine wa_ (wa_ (zB (wM (h:=w_ (le (h:=w_ (b_ (h:=nE (h:=zA ?_)))))))));refine c_ (h1:=?_) (h2:=?_)
  rotate_right 1
  focus
   intro c2;first|exact dn c2|(
    have d2:=c2;try simp at d2
    refine zC ?_)
  rotate_right 1
  focus
   intro c2;first|exact dn c2|(
    have d2:=c2;try simp at d2
    refine wa_ (zB (w_ (aN (h:=W3 (h:=nE (h:=zA (zF ?_))))))))
  all_goals first|refine zK ?_|(
   refine zA ?_;refine wa_ (zB (wM (h:=W3 (h:=W3 (h:=nE (h:=zA (zF ?_)))))))))
 all_goals (refine qX (hr:=(zL rfl (zL rfl zM))) (h:=?_);(focus (rw[hT,ha];first|(simp[*];done)|(rw[if_neg (by simp[*]),if_pos (by first|assumption|omega|(simp at *;omega))];simp;done)|(rw[if_neg (by simp[*]),if_neg (by first|assumption|omega|(simp at *;omega))];simp;done))))
def ltT (a b:Et):Bool:=decide (vT a.row b.row<0)
def qDg (x c:Et):Et:=⟨x.row,IntKind.i64.wrap (x.w+c.w)⟩
abbrev qCs:List Et->Et->List Et:=zAo ltT qDg
def badT (d:Et):Bool:=!inI d.w (-1000000000000) 1000000000000
def qKm (d:Et):Bool:=decide (¬d.w=0)
def qGu (t:List Et):List Et×Int:=if t.any badT=true then([],8) else if 200<(t.filter qKm).length then([],2) else(t.filter qKm,0)
def zK2 (z:List Et):List Et×Int:=qGu (z.foldl qCs [])
instance:Inhabited Et:=⟨⟨[],0⟩⟩
theorem qHv (a b:Er):ltT a.e b.e=ltE a b:=rfl
theorem qAq:∀(l:List Er) (c:Er),(zHr l c).map Er.e=qCs (l.map Er.e) c.e
 | [],c=>rfl
 | x::r,c=>by
  show(zAo ltE zKs (x::r) c).map Er.e=zAo ltT qDg (x.e::r.map Er.e) c.e;rw[jK,jK,qHv,qHv];split
  ·rw[List.map_cons];rw[show(zAo ltE zKs r c).map Er.e=_ from qAq r c]
  ·split<;>rfl
theorem zUs:∀(z l:List Er),(z.foldl zHr l).map Er.e=(z.map Er.e).foldl qCs (l.map Er.e)
 | [],_=>rfl
 | c::z,l=>by rw[List.foldl_cons,zUs z,qAq];rfl
theorem qJd (t:List Er):(zSx t).1.map Er.e=(qGu (t.map Er.e)).1/\(zSx t).2=(qGu (t.map Er.e)).2:=by
 have h1:(t.map Er.e).any badT=t.any zHy:=by rw[List.any_map];rfl
 have h2:(t.map Er.e).filter qKm=(t.filter zD7).map Er.e:=by rw[List.filter_map];rfl
 unfold zSx qGu;rw[h1,h2,List.length_map];split
 ·exact⟨rfl,rfl⟩
 ·split<;>exact⟨rfl,rfl⟩
theorem qAi {r:List Er}:(zSx (r.foldl zHr [])).1.map Er.e=(zK2 (r.map Er.e)).1/\(zSx (r.foldl zHr [])).2=(zK2 (r.map Er.e)).2:=by
 have h:=qJd (r.foldl zHr []);rw[zUs] at h;exact h
theorem qAc (z:List Et) (hl:z.length<900000) (hr:∀x∈z,x.row.length<2000000) (hn:∀x∈z,IntKind.i64.wrap x.w=x.w):oc.call 60 [.lst false 0 (ets false z)]=some (.tup [.lst true 2 (ets true (zK2 z).1),.int .i64 (zK2 z).2],[]):=by
 obtain⟨r,rfl⟩:=zTe hr;obtain⟨h1,h2⟩:=qAi (r:=r)
 have:=zZl r (by simp at hl;omega) (fun x hx=>hn x.e (List.mem_map_of_mem hx))
 rw[<-h1,<- h2];exact this
theorem qLe (z:List Et) (hl:z.length<1800000) (hr:∀x∈z,x.row.length<2000000):oc.call 100 [.lst false 0 (ets false z)]=some (.tup [.lst true 2 (ets true (zK2 z).1),.int .i64 (zK2 z).2],[]):=by
 obtain⟨r,rfl⟩:=zTe hr;obtain⟨h1,h2⟩:=qAi (r:=r)
 have:=qCh r (by simp at hl;omega)
 rw[<-h1,<- h2];exact this
theorem zW9:∀{l:List Et} {p:Option Et},zJp p l=0->(∀x∈l,zI0 x.row=0/\wOk x.w=true/\x.w≠0)/\(match p with|some q=>(q::l).Pairwise (fun x y=>ltT x y=true)|none=>l.Pairwise (fun x y=>ltT x y=true))
 | [],p,_=>by refine⟨fun x hx=>(by cases hx),?_⟩;cases p<;>simp
 | c::r,p,h=>by
  by_cases h0:zI0 c.row=0
  ·by_cases h1:wOk c.w=false\/c.w=0
   ·rw[zX3 h0 h1] at h;cases h
   ·by_cases h2:(p.elim false fun q=>decide (0<=vT q.row c.row))=true
    ·rw[zUi h0 h1 h2] at h;cases h
    ·rw[zPs h0 h1 h2] at h
     obtain⟨a,b⟩:=zW9 h;simp only at b
     have hc:wOk c.w=true:=by
      cases e:wOk c.w
      ·exact absurd (.inl e) h1
      ·rfl
     refine⟨fun x hx=>?_,?_⟩
     ·rcases List.mem_cons.1 hx with rfl|hx
      ·exact⟨h0,hc,fun e=>h1 (.inr e)⟩
      ·exact a x hx
     ·cases p with
      | none=>exact b
      | some q =>
       simp only[Option.elim] at h2;have hq:ltT q c=true:=by simp[ltT];simpa using h2
       refine List.pairwise_cons.2 ⟨fun y hy=>?_,b⟩;rcases List.mem_cons.1 hy with rfl|hy
       ·exact hq
       ·have h3:=(List.pairwise_cons.1 b).1 y hy
        simp only[ltT,decide_eq_true_eq] at *;have h4:=kX q.row y.row;have h5:=kX c.row y.row;have h6:=kX q.row c.row
        by_cases h7:vT q.row y.row<0
        ·exact h7
        ·have:=zJn (z:=c.row) (y:=q.row) (x:=y.row) (by omega) (by omega)
         omega
  ·rw[zJf h0] at h;exact absurd h h0
theorem zGf {z:List Et} (h:zFh z=0):z.length<=200/\(∀x∈z,zI0 x.row=0/\wOk x.w=true/\x.w≠0)/\z.Pairwise (fun x y=>ltT x y=true):=by
 unfold zFh at h;split at h
 ·cases h
 ·exact⟨by omega,zW9 (p:=none) h⟩
theorem wOk_w {w:Int} (h:wOk w=true):IntKind.i64.wrap w=w:=by
 simp[wOk,inI] at h;exact qL (by omega) (by omega)
theorem zZv {P:Et->Prop} (ha:∀x c,P x->P c->P (qDg x c)) {z:List Et} (h:∀x∈z,P x):∀x∈z.foldl qCs [],P x :=
 zMp (lt:=ltT) (add:=qDg) ha (S:=z) (acc:=[]) (fun x hx=>by cases hx) h
theorem qCi {z:List Et} {n:Nat} (h:∀x∈z,x.row.length<=n):(zK2 z).1.length<=200/\∀x∈(zK2 z).1,x.row.length<=n:=by
 have hm:=zZv (P:=fun x=>x.row.length<=n) (fun x c hx _=>hx) h;unfold zK2 qGu;split
 ·exact⟨by simp,fun x hx=>by cases hx⟩
 ·split
  ·exact⟨by simp,fun x hx=>by cases hx⟩
  ·exact⟨by simp only;omega,fun x hx=>hm x ((List.mem_filter.1 hx).1)⟩
end Go.Proofs.YtbcgenkegnmkhaaGreat.Ev
namespace Go.Proofs.YtbcgenkegnmkhaaGreat.Ev
open Go
set_option maxRecDepth 100000
set_option linter.unusedSimpArgs false
set_option linter.unusedVariables false
set_option maxHeartbeats 2000000
def entW (c:List Int) (b:Nat):Int:=at0 [1,1,2,-1,IntKind.i64.wrap (jQ c b 9 - 4)] (jQ c (b+1) 5)
def entD (c:List Int) (w a:Nat):Et:=⟨zEm c w a,entW c (a+6 * w)⟩
def zB5 (c:List Int) (w:Nat):Nat->Nat->List Et
 | 0,_=>[]
 | k+1,a=>entD c w a::zB5 c w k (a+6 * w+2)
theorem zLl (c:List Int) (w:Nat):∀(k a:Nat),(zB5 c w k a).length=k
 | 0,_=>rfl
 | k+1,a=>by simp[zB5,zLl c w k]
theorem zHp {c:List Int} {w:Nat}:∀{k a:Nat} {x:Et},x∈zB5 c w k a->x.row.length=w
 | 0,_,x,h=>by cases h
 | k+1,a,x,h=>by
  rcases List.mem_cons.1 h with rfl|h
  ·simp[entD]
  ·exact zHp h
theorem qDe (c:List Int) (w:Nat) (hc:okS c) (hw5:w<1000):∀x:Nat×Nat×(List Et),(x.1<1000/\x.2.1+x.1 * (6 * w+2)<800000000/\x.2.2.length+x.1<1000)->∀s,zH 2 (some [0,1,5,6]) s=⟨[(0,.ptr 0 0 []),(1,.int .i64 w),(5,.ref 2 0 x.2.2.length),(6,.int .i64 x.1)],[(0,⟨true,false,2,[qZ c x.2.1],0⟩),(2,⟨false,false,2,ets true x.2.2,0⟩)],3⟩ ->
 oc.loop 101 3 s=some (.exit 0,⟨[(5,.ref 2 0 (x.2.2++zB5 c w x.1 x.2.1).length)],[(0,⟨true,false,2,[qZ c (x.2.1+x.1 * (6 * w+2))],0⟩),(2,⟨false,false,2,ets true (x.2.2++zB5 c w x.1 x.2.1),0⟩)],3⟩):=by
 refine zV (σ:=Nat×Nat×(List Et)) (fun x=>x.1) _ (fun x=>⟨[(0,.ptr 0 0 []),(1,.int .i64 w),(5,.ref 2 0 x.2.2.length),(6,.int .i64 x.1)],[(0,⟨true,false,2,[qZ c x.2.1],0⟩),(2,⟨false,false,2,ets true x.2.2,0⟩)],3⟩) _ ?_;rintro⟨k,a,l⟩ hi ih s hs;simp only at hi;refine qD qIw rfl rfl hs ?_;obtain⟨hi1,hi2,hi3⟩:=hi;refine wa_ (wa_ (zB (wM (h:=w_ (b_ (h:=nE (h:=zA ?_)))))));refine c_ (h1:=?_) (h2:=?_)
 rotate_right 1
 focus
  intro c1;first|exact dn c1|(
   have d1:=c1;try simp at d1
   refine zW ?_)
 rotate_right 1
 focus
  intro c1;first|exact dn c1|(
   have d1:=c1;try simp at d1
   have hj:0<k:=(by simp at c1;omega);obtain⟨m,rfl⟩:∃m,k=m+1:=⟨k - 1,by omega⟩;rw[Nat.succ_mul m (6 * w+2)] at hi2;have e9:a+6 * w+2+m * (6 * w+2)=a+(m+1) * (6 * w+2):=(by rw[Nat.succ_mul m (6 * w+2)];generalize m * (6 * w+2)=Q;omega);obtain⟨P,hP⟩:∃P,m * (6 * w+2)=P:=⟨_,rfl⟩;rw[hP] at hi2;have hT:(zEm c w a).take w=zEm c w a:=List.take_of_length_le (by simp);refine zC ?_)
 all_goals first|refine zR ?_|(
  refine zA ?_;refine wa_ (zG (zB (wM (h:=wM (h:=wM (h:=w_ (cP (hc:=zMr c w a hc (by omega) (by omega)) (h:=wM (h:=wM (h:=w_ (cP (hc:=qF c (a+6 * w) 9 hc (by omega) (by omega)) (h:=w_ (b_ (h:=w_ (bs (h:=?_))))))))))))))));refine w_ (cPT (hc:=kQ c (a+6 * w+1) [1,1,2,-1,IntKind.i64.wrap (jQ c (a+6 * w) 9 - 4)] hc (by omega) (by simp) (by simp)) (h:=w_ (bd (h:=w_ (bs (h:=w_ (ap (h:=W3 (h:=nE (h:=zI (zA (zB (wM (h:=w_ ?_))))))))))))));refine b_ (hv:=jZ (c:=m) (by simp) (by omega)) (h:=?_);refine W3 (h:=nE (h:=?_)))
 all_goals first
 | (apply zP (ex:=(Ext.exit 0)) 2 (some [5]);(focus (simp[zH];rfl));(focus (obtain rfl:k=0:=(by simp at c1;omega);simp[zB5])))
 | (refine(ih ((m,a+6 * w+2,l++[entD c w a])) (⟨by simp only;omega,by simp only;rw[hP];omega,by simp;omega⟩) ?_ _ ?_).trans ?_;(focus (first|omega|(simp;done)|(simp;omega)));(focus (simp[zH,entD,entW,hT];done));(focus (simp[zB5,e9])))
theorem qN3 (c:List Int) (w a k:Nat) (hc:okS c) (hw5:w<1000) (ha:a<700000000) (hk:(jQ c a 7).toNat=k):oc.call 101 [.iop (qZ c a),.int .i64 w]=some (.lst true 2 (ets true (zB5 c w k (a+1))),[qZ c (a+1+k * (6 * w+2))]):=by
 refine qA rfl qIw rfl rfl rfl (by simp;rfl) (by simp;rfl) ?_;obtain⟨h1,h2⟩:=jL (c:=c) (a:=a) (n:=7) (by omega);have hn5:jQ c a 7=(k:Int):=by omega
 have hkl:k<7:=by omega
 have hkm:k * (6 * w+2)<=7 * (6 * w+2):=Nat.mul_le_mul_right _ (by omega);have hnx:oc.call 37 [.iop (qZ c a),.int .i64 7]=some (.int .i64 k,[qZ c (a+1)]):=by rw[<-hn5];exact qF c a 7 hc (by omega) (by omega)
 have hT:(ets true (zB5 c w k (a+1))).take (zB5 c w k (a+1)).length=ets true (zB5 c w k (a+1)):=List.take_of_length_le (by simp);refine wa_ (zB (w_ (aN (h:=nE (h:=zA (wa_ (zB (w_ (bs (h:=W3 (h:=nE (h:=zA (wa_ ?_)))))))))))));refine wa_ (zB (wM (h:=w_ (cP (hc:=hnx) (h:=W3 (h:=nE (h:=zA (zG ?_))))))));refine qH (qDe c w hc hw5 (k,a+1,[]) ⟨by simp only;omega,by simp only;omega,by simp;omega⟩ _ (by simp[zH])) ?_;refine zS (zA (wa_ (zB (wM (h:=W3 (h:=nE (h:=zA (zF ?_))))))))
 all_goals (refine qX (hr:=(zL rfl zM)) (h:=?_);(focus (simp[hT])))
def vJ (c:List Int) (w a:Nat):List Et:=(zK2 (zB5 c w (jQ c a 7).toNat (a+1))).1
def zCn (c:List Int) (w a:Nat):Nat:=a+1+(jQ c a 7).toNat * (6 * w+2)
theorem vG (c:List Int) (w a:Nat):(vJ c w a).length<=200/\(∀x∈vJ c w a,x.row.length<=w)/\zCn c w a<=a+1+7 * (6 * w+2):=by
 obtain⟨h1,h2⟩:=jL (c:=c) (a:=a) (n:=7) (by omega);have h:=qCi (z:=zB5 c w (jQ c a 7).toNat (a+1)) (n:=w) (fun x hx=>by rw[zHp hx];exact Nat.le_refl _);refine⟨h.1,h.2,?_⟩
 have:=Nat.mul_le_mul_right (6 * w+2) (show(jQ c a 7).toNat<=7 by omega)
 unfold zCn;omega
theorem qNb (c:List Int) (w a:Nat) (hc:okS c) (hw5:w<1000) (ha:a<700000000):vW oc cf 40 [.iop (qZ c a),.int .i64 w]=some (.lst true 2 (ets true (vJ c w a)),[qZ c (zCn c w a)]):=by
 refine zCx cd40 rfl rfl rfl (by first|(simp;rfl)|rfl) (by first|(simp;rfl)|rfl) ?_;obtain⟨h1,h2⟩:=jL (c:=c) (a:=a) (n:=7) (by omega);obtain⟨k,hk⟩:∃k,(jQ c a 7).toNat=k:=⟨_,rfl⟩;have hs:=qLe (zB5 c w k (a+1)) (by rw[zLl];omega) (fun x hx=>by rw[zHp hx];omega);have hT:(ets true (zK2 (zB5 c w k (a+1))).1).take (zK2 (zB5 c w k (a+1))).1.length=ets true (zK2 (zB5 c w k (a+1))).1:=List.take_of_length_le (by simp);refine wa_ (zB (w_ (aN (h:=nE (h:=zA (wa_ (zB (wM (h:=wM (h:=w_ (cP (hc:=qN3 c w a k hc hw5 ha hk) (h:=w_ (ca (hc:=hs) (h:=wM (h:=?_)))))))))))))));refine w_ (ex (h:=w_ (ex (h:=W3 (h:=W3 (h:=nE (h:=zA (wa_ (zB (wM (h:=W3 (h:=nE (h:=zA ?_)))))))))))));refine zF ?_
 all_goals (refine qX (hr:=(zL rfl zM)) (h:=?_);(focus (unfold vJ zCn;rw[hk];simp[hT])))
theorem zDc (c:List Int) (w a:Nat) (hc:okS c) (hw5:w<1000) (ha:a<700000000):oc.call 40 [.iop (qZ c a),.int .i64 w]=some (.lst true 2 (ets false (vJ c w a)),[qZ c (zCn c w a)]):=by
 have:=zDv rfl rfl (qNb c w a hc hw5 ha)
 simpa [V.half] using this
section
variable {call : Call} {id base : Nat} {e : List (Nat × V)} {o : List (Nat × Ob)} {n : Nat} {t : TypeId} {K : V->List (Nat × Ob)->Prop}
theorem sR {x y:Operand} {z e0 e1 old:V} {t':TypeId} {q j o2 m:Nat} {fs:List Nat} {ob ob2:Ob} {o1:List (Nat×Ob)} {ws:List V} (hz:cf.zero t'=some z:=by exact tys_ok.zero _ _ rfl) (hx:opV e x=some (.ptr q j fs):=by exact rfl) (hy:opV e y=some (.ref o2 0 m):=by exact rfl) (ho:zO o q=some ob:=by exact rfl) (hb:ob.bx=false:=by rfl) (hg:ob.xs[j]? = some e0:=by first|assumption|exact zIe (by assumption)) (hgf:kS e0 fs=some old:=by exact rfl) (hal:old.alike (.ref o2 0 m)=true:=by rfl) (hzal:z.alike (.ref o2 0 m)=true:=by rfl)
  (h2:zO o o2=some ob2:=by exact rfl) (hb2:ob2.bx=false:=by rfl) (hf2:ob2.fx=false:=by rfl) (hm:m=ob2.xs.length:=by first|rfl|simp) (hd:kT o o2=o1:=by(simp;rfl)) (hq1:zO o1 q=some ob:=by exact rfl) (hs:zCv e0 fs (.lst true ob2.sz ob2.xs)=some e1:=by exact rfl) (hal2:old.alike (.lst true ob2.sz ob2.xs)=true:=by rfl) (hw:ob.xs.set j e1=ws:=by(try simp only[List.set_set]);rfl)
  (h:K .und ((q,⟨ob.bx,ob.fx,ob.sz,ws,ob.ver+1⟩)::o1)):opK call cf id base e o n t (.store t' x y) K:=by
 subst hd hm hw;refine⟨_,_,?_,h⟩
 have hgive:St.give ⟨e,o,n⟩ o2 0 ob2.xs.length=some (ob2.sz,ob2.xs,⟨e,kT o o2,n⟩):=by
  simp only[St.give,h2,hb2,hf2,Nat.zero_add,Nat.le_refl,and_self,if_true,List.drop_zero,List.take_length]
 have hfz:V.fz (.ref o2 0 ob2.xs.length) ⟨e,o,n⟩=some (.lst true ob2.sz ob2.xs,⟨e,kT o o2,n⟩):=by
  simp only[V.fz,hgive,zJ]
 have hget:ob.get j fs=some old:=by simp only[Ob.get,hg,hgf]
 have hset:ob.set j fs (.lst true ob2.sz ob2.xs)=some { ob with xs:=ob.xs.set j e1 }:=by simp only[Ob.set,hg,hs,zJ]
 have hsc:V.scal (.ref o2 0 ob2.xs.length)=false:=rfl;simp only[opE,hz,hx,hy,xJ,ho,hget,hal,hzal,and_self,if_true,hb,Bool.false_eq_true,if_false,hfz,hq1,hal2,hset,zJ,hsc,Bool.and_false,xC]
end
end Go.Proofs.YtbcgenkegnmkhaaGreat.Ev
namespace Go.Proofs.YtbcgenkegnmkhaaGreat.Ev
open Go
set_option maxRecDepth 100000
set_option linter.unusedSimpArgs false
set_option linter.unusedVariables false
set_option maxHeartbeats 2000000
def sixW:List Int:=[0,1000000000000,1000000000001,-1000000000000,-1000000000001,-9223372036854775808]
theorem zLz {z:List Et} {i:Nat} (h:i<z.length):∃x,z[i]? = some x/\(ets false z)[i]? = some (V.agg [.lst false 0 (ints x.row),.int .i64 x.w]):=⟨z[i],by simp[h],by simp[ets,h,Et.v,lz]⟩
theorem r_bE (c:List Int) (w a:Nat) (hc:okS c) (hw5:w<1000) (ha:a<600000000) (hz:vJ c w a=[]):vW oc cf 98 [.iop (qZ c a),.int .i64 w]=some (.lst true 2 [],[qZ c (zCn c w a)]):=by
 refine zCx qH4 rfl rfl rfl (by first|(simp;rfl)|rfl) (by first|(simp;rfl)|rfl) ?_;have hdr:=zDc c w a hc hw5 (by omega);rw[hz] at hdr;refine wa_ (zB (w_ (aN (h:=nE (h:=zA (wa_ (zB (wM (h:=wM (h:=w_ (cP (hc:=hdr) (h:=W3 (h:=nE (h:=?_))))))))))))));refine zA (wa_ (wa_ (zB (wM (h:=w_ (le (h:=w_ (bE (h:=nE (h:=zA ?_))))))))));refine c_ (h1:=?_) (h2:=?_)
 rotate_right 1
 focus
  intro c1;first|exact dn c1|(
   have d1:=c1;try simp at d1
   exfalso;simp at c1)
 rotate_right 1
 focus
  intro c1;first|exact dn c1|(
   have d1:=c1;try simp at d1
   refine wa_ (zB (wM (h:=W3 (h:=nE (h:=zA (zF ?_)))))))
 all_goals first|refine zK ?_|(
  refine zA ?_;refine wa_ (zB (wM (h:=wM (h:=w_ (le (h:=w_ (MISSING_CALL_spec.l1Next (h:=W3 (h:=nE (h:=zA (wa_ (wa_ (zB ?_)))))))))))));refine wM (h:=w_ (MISSING_CALL_spec.l1Next (h:=nE (h:=zA (zG (wa_ (zB (w_ (bE (h:=W3 (h:=nE (h:=zA ?_))))))))))));refine c_ (h1:=?_) (h2:=?_)
  rotate_right 1
  focus
   intro c2;first|exact dn c2|(
    have d2:=c2;try simp at d2
    refine wa_ (zB (w_ (bE (h:=W3 (h:=nE (h:=zA ?_))))));refine c_ (h1:=?_) (h2:=?_)
    rotate_right 1
    focus
     intro c3;first|exact dn c3|(
      have d3:=c3;try simp at d3
      refine wa_ (zB (w_ (bE (h:=W3 (h:=nE (h:=zA ?_))))));refine c_ (h1:=?_) (h2:=?_)
      rotate_right 1
      focus
       intro c4;first|exact dn c4|(
        have d4:=c4;try simp at d4
        refine wa_ (zB (w_ (bE (h:=W3 (h:=nE (h:=zA ?_))))));refine c_ (h1:=?_) (h2:=?_)
        rotate_right 1
        focus
         intro c5;first|exact dn c5|(
          have d5:=c5;try simp at d5
          refine zC ?_)
        rotate_right 1
        focus
         intro c5;first|exact dn c5|(
          have d5:=c5;try simp at d5
          refine zB (w_ (mk (h:=W3 (h:=nE (h:=?_)))))))
      rotate_right 1
      focus
       intro c4;first|exact dn c4|(
        have d4:=c4;try simp at d4
        refine zB (wM (h:=wM (h:=wM (h:=w_ (x_ (h:=w_ (l_ (h:=w_ (bs (h:=w_ (ap (h:=W3 (h:=nE (h:=?_))))))))))))))))
    rotate_right 1
    focus
     intro c3;first|exact dn c3|(
      have d3:=c3;try simp at d3
      refine zB (wM (h:=wM (h:=wM (h:=w_ (bs (h:=w_ (MISSING_CALL_spec.l1Pick (h:=w_ (x_ (h:=w_ (f_ (h:=w0 (s_ (h:=nE (h:=?_)))))))))))))))))
  rotate_right 1
  focus
   intro c2;first|exact dn c2|(
    have d2:=c2;try simp at d2
    refine zB (wM (h:=wM (h:=wM (h:=w_ (MISSING_CALL_spec.l1Bent (h:=w_ (x_ (h:=w_ (f_ (h:=w0 (s_ (h:=nE (h:=?_))))))))))))))
  all_goals refine zI ?_
  all_goals first
  | (
   refine zA ?_;refine wa_ (zB (wM (h:=W3 (h:=nE (h:=zA (zF ?_))))))))
 all_goals (refine qX (hr:=(zL rfl zM)) (h:=?_);(focus (simp)))
theorem r_b0 (c:List Int) (w a A I:Nat) (z:List Et) (hc:okS c) (hw5:w<1000) (ha:a<600000000) (hz:vJ c w a=z) (hA:zCn c w a=A) (h0:0<z.length) (hI:jQ c A z.length=(I:Int)) (hk:jQ c (A+1) 20=0) (x:Et) (hx:z[I]? = some x):vW oc cf 98 [.iop (qZ c a),.int .i64 w]=some (.lst true 2 ((ets false z).set I (V.agg [.lst true 1 (ints (zFe c (A+2)).1),.int .i64 x.w])),[qZ c (zFe c (A+2)).2]):=by
 refine zCx qH4 rfl rfl rfl (by first|(simp;rfl)|rfl) (by first|(simp;rfl)|rfl) ?_;have hd:=vG c w a;rw[hz,hA] at hd;obtain⟨d1',d2',d3'⟩:=hd;have hdr:=zDc c w a hc hw5 (by omega);rw[hz,hA] at hdr;have hIl:I<z.length:=by have:=(jL (c:=c) (a:=A) (n:=z.length) (by omega)).2;omega
 have g1:(ets false z)[I]? = some (V.agg [.lst false 0 (ints x.row),.int .i64 x.w]):=by obtain⟨y,hy,g⟩:=zLz hIl;rw[hx] at hy;cases hy;exact g
 have hnx:oc.call 37 [.iop (qZ c A),.int .i64 z.length]=some (.int .i64 I,[qZ c (A+1)]):=by rw[<-hI];exact qF c A z.length hc (by omega) (by omega)
 have hnk:oc.call 37 [.iop (qZ c (A+1)),.int .i64 20]=some (.int .i64 (jQ c (A+1) 20),[qZ c (A+1+1)]):=qF c (A+1) 20 hc (by omega) (by omega);have hTz:∀y,((ets false z).set I y).take z.length=(ets false z).set I y:=fun y=>List.take_of_length_le (by simp)
 refine wa_ (zB (w_ (aN (h:=nE (h:=zA (wa_ (zB (wM (h:=wM (h:=w_ (cP (hc:=hdr) (h:=W3 (h:=nE (h:=?_))))))))))))));refine zA (wa_ (wa_ (zB (wM (h:=w_ (le (h:=w_ (bE (h:=nE (h:=zA ?_))))))))));refine c_ (h1:=?_) (h2:=?_)
 rotate_right 1
 focus
  intro c1;first|exact dn c1|(
   have d1:=c1;try simp at d1
   refine zC ?_)
 rotate_right 1
 focus
  intro c1;first|exact dn c1|(
   have d1:=c1;try simp at d1
   exfalso;simp at c1;simp[c1] at h0)
 all_goals first|refine zK ?_|(
  refine zA ?_;refine wa_ (zB (wM (h:=wM (h:=w_ (le (h:=w_ (cP (hc:=hnx) (h:=W3 (h:=nE (h:=zA (wa_ (wa_ (zB ?_)))))))))))));refine wM (h:=w_ (cP (hc:=hnk) (h:=nE (h:=zA (zG (wa_ (zB (w_ (bE (h:=W3 (h:=nE (h:=zA ?_))))))))))));refine c_ (h1:=?_) (h2:=?_)
  rotate_right 1
  focus
   intro c2;first|exact dn c2|(
    have d2:=c2;try simp at d2
    exfalso;simp[hk] at c2)
  rotate_right 1
  focus
   intro c2;first|exact dn c2|(
    have d2:=c2;try simp at d2
    refine zB (wM (h:=wM (h:=wM (h:=w_ (cP (hc:=qCj c (A+2) hc (by omega)) (h:=w_ (x_ (h:=w_ (f_ (h:=w0 ?_))))))))));refine sR (h:=?_);refine nE (h:=?_))
  all_goals refine zI ?_
  all_goals first
  | (
   refine zA ?_;refine wa_ (zB (wM (h:=W3 (h:=nE (h:=zA (zF ?_))))))))
 all_goals (refine qX (hr:=(zL rfl zM)) (h:=?_);(focus (simp[hTz])))
theorem r_b1 (c:List Int) (w a A I:Nat) (z:List Et) (hc:okS c) (hw5:w<1000) (ha:a<600000000) (hz:vJ c w a=z) (hA:zCn c w a=A) (h0:0<z.length) (hI:jQ c A z.length=(I:Int)) (hk:jQ c (A+1) 20=1) (x:Et) (hx:z[I]? = some x):vW oc cf 98 [.iop (qZ c a),.int .i64 w]=some (.lst true 2 (ets false (z.set I ⟨x.row,at0 sixW (jQ c (A+2) 6)⟩)),[qZ c (A+3)]):=by
 refine zCx qH4 rfl rfl rfl (by first|(simp;rfl)|rfl) (by first|(simp;rfl)|rfl) ?_;have hd:=vG c w a;rw[hz,hA] at hd;obtain⟨d1',d2',d3'⟩:=hd;have hdr:=zDc c w a hc hw5 (by omega);rw[hz,hA] at hdr;have hIl:I<z.length:=by have:=(jL (c:=c) (a:=A) (n:=z.length) (by omega)).2;omega
 have g1:(ets false z)[I]? = some (V.agg [.lst false 0 (ints x.row),.int .i64 x.w]):=by obtain⟨y,hy,g⟩:=zLz hIl;rw[hx] at hy;cases hy;exact g
 have hnx:oc.call 37 [.iop (qZ c A),.int .i64 z.length]=some (.int .i64 I,[qZ c (A+1)]):=by rw[<-hI];exact qF c A z.length hc (by omega) (by omega)
 have hnk:oc.call 37 [.iop (qZ c (A+1)),.int .i64 20]=some (.int .i64 (jQ c (A+1) 20),[qZ c (A+1+1)]):=qF c (A+1) 20 hc (by omega) (by omega);have hTz:∀y,((ets false z).set I y).take z.length=(ets false z).set I y:=fun y=>List.take_of_length_le (by simp)
 have h6:sixW.length=6:=rfl;have hT1:∀y,(z.set I y).take z.length=z.set I y:=fun y=>List.take_of_length_le (by simp)
 refine wa_ (zB (w_ (aN (h:=nE (h:=zA (wa_ (zB (wM (h:=wM (h:=w_ (cP (hc:=hdr) (h:=W3 (h:=nE (h:=?_))))))))))))));refine zA (wa_ (wa_ (zB (wM (h:=w_ (le (h:=w_ (bE (h:=nE (h:=zA ?_))))))))));refine c_ (h1:=?_) (h2:=?_)
 rotate_right 1
 focus
  intro c1;first|exact dn c1|(
   have d1:=c1;try simp at d1
   refine zC ?_)
 rotate_right 1
 focus
  intro c1;first|exact dn c1|(
   have d1:=c1;try simp at d1
   exfalso;simp at c1;simp[c1] at h0)
 all_goals first|refine zK ?_|(
  refine zA ?_;refine wa_ (zB (wM (h:=wM (h:=w_ (le (h:=w_ (cP (hc:=hnx) (h:=W3 (h:=nE (h:=zA (wa_ (wa_ (zB ?_)))))))))))));refine wM (h:=w_ (cP (hc:=hnk) (h:=nE (h:=zA (zG (wa_ (zB (w_ (bE (h:=W3 (h:=nE (h:=zA ?_))))))))))));refine c_ (h1:=?_) (h2:=?_)
  rotate_right 1
  focus
   intro c2;first|exact dn c2|(
    have d2:=c2;try simp at d2
    refine wa_ (zB (w_ (bE (h:=W3 (h:=nE (h:=zA ?_))))));refine c_ (h1:=?_) (h2:=?_)
    rotate_right 1
    focus
     intro c3;first|exact dn c3|(
      have d3:=c3;try simp at d3
      exfalso;simp[hk] at c3)
    rotate_right 1
    focus
     intro c3;first|exact dn c3|(
      have d3:=c3;try simp at d3
      refine zB (wM (h:=wM (h:=wM (h:=w_ (bs (h:=w_ (cPT (hc:=kQ c (A+2) sixW hc (by omega) (by simp[sixW]) (by simp[sixW])) (h:=w_ (x_ (h:=w_ (f_ (h:=w0 (s_ (h:=nE (h:=?_)))))))))))))))))
  rotate_right 1
  focus
   intro c2;first|exact dn c2|(
    have d2:=c2;try simp at d2
    exfalso;simp[hk] at c2)
  all_goals refine zI ?_
  all_goals first
  | (
   refine zA ?_;refine wa_ (zB (wM (h:=W3 (h:=nE (h:=zA (zF ?_))))))))
 all_goals (refine qX (hr:=(zL rfl zM)) (h:=?_);(focus (simp[hT1,h6])))
theorem r_b2 (c:List Int) (w a A I:Nat) (z:List Et) (hc:okS c) (hw5:w<1000) (ha:a<600000000) (hz:vJ c w a=z) (hA:zCn c w a=A) (h0:0<z.length) (hI:jQ c A z.length=(I:Int)) (hk:jQ c (A+1) 20=2) (x:Et) (hx:z[I]? = some x):vW oc cf 98 [.iop (qZ c a),.int .i64 w]=some (.lst true 2 (ets false (z++[x])),[qZ c (A+2)]):=by
 refine zCx qH4 rfl rfl rfl (by first|(simp;rfl)|rfl) (by first|(simp;rfl)|rfl) ?_;have hd:=vG c w a;rw[hz,hA] at hd;obtain⟨d1',d2',d3'⟩:=hd;have hdr:=zDc c w a hc hw5 (by omega);rw[hz,hA] at hdr;have hIl:I<z.length:=by have:=(jL (c:=c) (a:=A) (n:=z.length) (by omega)).2;omega
 have g1:(ets false z)[I]? = some (V.agg [.lst false 0 (ints x.row),.int .i64 x.w]):=by obtain⟨y,hy,g⟩:=zLz hIl;rw[hx] at hy;cases hy;exact g
 have hnx:oc.call 37 [.iop (qZ c A),.int .i64 z.length]=some (.int .i64 I,[qZ c (A+1)]):=by rw[<-hI];exact qF c A z.length hc (by omega) (by omega)
 have hnk:oc.call 37 [.iop (qZ c (A+1)),.int .i64 20]=some (.int .i64 (jQ c (A+1) 20),[qZ c (A+1+1)]):=qF c (A+1) 20 hc (by omega) (by omega);have hTz:∀y,((ets false z).set I y).take z.length=(ets false z).set I y:=fun y=>List.take_of_length_le (by simp)
 have hT1:(z++[x]).take (z.length+1)=z++[x]:=List.take_of_length_le (by simp);refine wa_ (zB (w_ (aN (h:=nE (h:=zA (wa_ (zB (wM (h:=wM (h:=w_ (cP (hc:=hdr) (h:=W3 (h:=nE (h:=?_))))))))))))));refine zA (wa_ (wa_ (zB (wM (h:=w_ (le (h:=w_ (bE (h:=nE (h:=zA ?_))))))))));refine c_ (h1:=?_) (h2:=?_)
 rotate_right 1
 focus
  intro c1;first|exact dn c1|(
   have d1:=c1;try simp at d1
   refine zC ?_)
 rotate_right 1
 focus
  intro c1;first|exact dn c1|(
   have d1:=c1;try simp at d1
   exfalso;simp at c1;simp[c1] at h0)
 all_goals first|refine zK ?_|(
  refine zA ?_;refine wa_ (zB (wM (h:=wM (h:=w_ (le (h:=w_ (cP (hc:=hnx) (h:=W3 (h:=nE (h:=zA (wa_ (wa_ (zB ?_)))))))))))));refine wM (h:=w_ (cP (hc:=hnk) (h:=nE (h:=zA (zG (wa_ (zB (w_ (bE (h:=W3 (h:=nE (h:=zA ?_))))))))))));refine c_ (h1:=?_) (h2:=?_)
  rotate_right 1
  focus
   intro c2;first|exact dn c2|(
    have d2:=c2;try simp at d2
    refine wa_ (zB (w_ (bE (h:=W3 (h:=nE (h:=zA ?_))))));refine c_ (h1:=?_) (h2:=?_)
    rotate_right 1
    focus
     intro c3;first|exact dn c3|(
      have d3:=c3;try simp at d3
      refine wa_ (zB (w_ (bE (h:=W3 (h:=nE (h:=zA ?_))))));refine c_ (h1:=?_) (h2:=?_)
      rotate_right 1
      focus
       intro c4;first|exact dn c4|(
        have d4:=c4;try simp at d4
        exfalso;simp[hk] at c4)
      rotate_right 1
      focus
       intro c4;first|exact dn c4|(
        have d4:=c4;try simp at d4
        refine zB (wM (h:=wM (h:=wM (h:=w_ (x_ (h:=w_ (l_ (h:=w_ (bs (h:=w_ (ap (h:=W3 (h:=nE (h:=?_))))))))))))))))
    rotate_right 1
    focus
     intro c3;first|exact dn c3|(
      have d3:=c3;try simp at d3
      exfalso;simp[hk] at c3))
  rotate_right 1
  focus
   intro c2;first|exact dn c2|(
    have d2:=c2;try simp at d2
    exfalso;simp[hk] at c2)
  all_goals refine zI ?_
  all_goals first
  | (
   refine zA ?_;refine wa_ (zB (wM (h:=W3 (h:=nE (h:=zA (zF ?_))))))))
 all_goals (refine qX (hr:=(zL rfl zM)) (h:=?_);(focus (simp[hT1])))
theorem r_b3 (c:List Int) (w a A I:Nat) (z:List Et) (hc:okS c) (hw5:w<1000) (ha:a<600000000) (hz:vJ c w a=z) (hA:zCn c w a=A) (h0:0<z.length) (hI:jQ c A z.length=(I:Int)) (hk:jQ c (A+1) 20=3) (x:Et) (hx:z[I]? = some x):vW oc cf 98 [.iop (qZ c a),.int .i64 w]=some (.lst true 2 (ets true (List.replicate 201 ⟨[],0⟩)),[qZ c (A+2)]):=by
 refine zCx qH4 rfl rfl rfl (by first|(simp;rfl)|rfl) (by first|(simp;rfl)|rfl) ?_;have hd:=vG c w a;rw[hz,hA] at hd;obtain⟨d1',d2',d3'⟩:=hd;have hdr:=zDc c w a hc hw5 (by omega);rw[hz,hA] at hdr;have hIl:I<z.length:=by have:=(jL (c:=c) (a:=A) (n:=z.length) (by omega)).2;omega
 have g1:(ets false z)[I]? = some (V.agg [.lst false 0 (ints x.row),.int .i64 x.w]):=by obtain⟨y,hy,g⟩:=zLz hIl;rw[hx] at hy;cases hy;exact g
 have hnx:oc.call 37 [.iop (qZ c A),.int .i64 z.length]=some (.int .i64 I,[qZ c (A+1)]):=by rw[<-hI];exact qF c A z.length hc (by omega) (by omega)
 have hnk:oc.call 37 [.iop (qZ c (A+1)),.int .i64 20]=some (.int .i64 (jQ c (A+1) 20),[qZ c (A+1+1)]):=qF c (A+1) 20 hc (by omega) (by omega);have hTz:∀y,((ets false z).set I y).take z.length=(ets false z).set I y:=fun y=>List.take_of_length_le (by simp)
 refine wa_ (zB (w_ (aN (h:=nE (h:=zA (wa_ (zB (wM (h:=wM (h:=w_ (cP (hc:=hdr) (h:=W3 (h:=nE (h:=?_))))))))))))));refine zA (wa_ (wa_ (zB (wM (h:=w_ (le (h:=w_ (bE (h:=nE (h:=zA ?_))))))))));refine c_ (h1:=?_) (h2:=?_)
 rotate_right 1
 focus
  intro c1;first|exact dn c1|(
   have d1:=c1;try simp at d1
   refine zC ?_)
 rotate_right 1
 focus
  intro c1;first|exact dn c1|(
   have d1:=c1;try simp at d1
   exfalso;simp at c1;simp[c1] at h0)
 all_goals first|refine zK ?_|(
  refine zA ?_;refine wa_ (zB (wM (h:=wM (h:=w_ (le (h:=w_ (cP (hc:=hnx) (h:=W3 (h:=nE (h:=zA (wa_ (wa_ (zB ?_)))))))))))));refine wM (h:=w_ (cP (hc:=hnk) (h:=nE (h:=zA (zG (wa_ (zB (w_ (bE (h:=W3 (h:=nE (h:=zA ?_))))))))))));refine c_ (h1:=?_) (h2:=?_)
  rotate_right 1
  focus
   intro c2;first|exact dn c2|(
    have d2:=c2;try simp at d2
    refine wa_ (zB (w_ (bE (h:=W3 (h:=nE (h:=zA ?_))))));refine c_ (h1:=?_) (h2:=?_)
    rotate_right 1
    focus
     intro c3;first|exact dn c3|(
      have d3:=c3;try simp at d3
      refine wa_ (zB (w_ (bE (h:=W3 (h:=nE (h:=zA ?_))))));refine c_ (h1:=?_) (h2:=?_)
      rotate_right 1
      focus
       intro c4;first|exact dn c4|(
        have d4:=c4;try simp at d4
        refine wa_ (zB (w_ (bE (h:=W3 (h:=nE (h:=zA ?_))))));refine c_ (h1:=?_) (h2:=?_)
        rotate_right 1
        focus
         intro c5;first|exact dn c5|(
          have d5:=c5;try simp at d5
          exfalso;simp[hk] at c5)
        rotate_right 1
        focus
         intro c5;first|exact dn c5|(
          have d5:=c5;try simp at d5
          refine zB (w_ (mk (h:=W3 (h:=nE (h:=?_)))))))
      rotate_right 1
      focus
       intro c4;first|exact dn c4|(
        have d4:=c4;try simp at d4
        exfalso;simp[hk] at c4))
    rotate_right 1
    focus
     intro c3;first|exact dn c3|(
      have d3:=c3;try simp at d3
      exfalso;simp[hk] at c3))
  rotate_right 1
  focus
   intro c2;first|exact dn c2|(
    have d2:=c2;try simp at d2
    exfalso;simp[hk] at c2)
  all_goals refine zI ?_
  all_goals first
  | (
   refine zA ?_;refine wa_ (zB (wM (h:=W3 (h:=nE (h:=zA (zF ?_))))))))
 all_goals (refine qX (hr:=(zL rfl zM)) (h:=?_);(focus (first|(simp[zPw];done)|(simp[zPw];rfl)|(simp;rfl))))
theorem r_b4 (c:List Int) (w a A I:Nat) (z:List Et) (hc:okS c) (hw5:w<1000) (ha:a<600000000) (hz:vJ c w a=z) (hA:zCn c w a=A) (h0:0<z.length) (hI:jQ c A z.length=(I:Int)) (hk:3<jQ c (A+1) 20) (x:Et) (hx:z[I]? = some x):vW oc cf 98 [.iop (qZ c a),.int .i64 w]=some (.lst true 2 (ets false z),[qZ c (A+2)]):=by
 refine zCx qH4 rfl rfl rfl (by first|(simp;rfl)|rfl) (by first|(simp;rfl)|rfl) ?_;have hd:=vG c w a;rw[hz,hA] at hd;obtain⟨d1',d2',d3'⟩:=hd;have hdr:=zDc c w a hc hw5 (by omega);rw[hz,hA] at hdr;have hIl:I<z.length:=by have:=(jL (c:=c) (a:=A) (n:=z.length) (by omega)).2;omega
 have g1:(ets false z)[I]? = some (V.agg [.lst false 0 (ints x.row),.int .i64 x.w]):=by obtain⟨y,hy,g⟩:=zLz hIl;rw[hx] at hy;cases hy;exact g
 have hnx:oc.call 37 [.iop (qZ c A),.int .i64 z.length]=some (.int .i64 I,[qZ c (A+1)]):=by rw[<-hI];exact qF c A z.length hc (by omega) (by omega)
 have hnk:oc.call 37 [.iop (qZ c (A+1)),.int .i64 20]=some (.int .i64 (jQ c (A+1) 20),[qZ c (A+1+1)]):=qF c (A+1) 20 hc (by omega) (by omega);have hTz:∀y,((ets false z).set I y).take z.length=(ets false z).set I y:=fun y=>List.take_of_length_le (by simp)
 have hT1:(ets false z).take z.length=ets false z:=List.take_of_length_le (by simp);refine wa_ (zB (w_ (aN (h:=nE (h:=zA (wa_ (zB (wM (h:=wM (h:=w_ (cP (hc:=hdr) (h:=W3 (h:=nE (h:=?_))))))))))))));refine zA (wa_ (wa_ (zB (wM (h:=w_ (le (h:=w_ (bE (h:=nE (h:=zA ?_))))))))));refine c_ (h1:=?_) (h2:=?_)
 rotate_right 1
 focus
  intro c1;first|exact dn c1|(
   have d1:=c1;try simp at d1
   refine zC ?_)
 rotate_right 1
 focus
  intro c1;first|exact dn c1|(
   have d1:=c1;try simp at d1
   exfalso;simp at c1;simp[c1] at h0)
 all_goals first|refine zK ?_|(
  refine zA ?_;refine wa_ (zB (wM (h:=wM (h:=w_ (le (h:=w_ (cP (hc:=hnx) (h:=W3 (h:=nE (h:=zA (wa_ (wa_ (zB ?_)))))))))))));refine wM (h:=w_ (cP (hc:=hnk) (h:=nE (h:=zA (zG (wa_ (zB (w_ (bE (h:=W3 (h:=nE (h:=zA ?_))))))))))));refine c_ (h1:=?_) (h2:=?_)
  rotate_right 1
  focus
   intro c2;first|exact dn c2|(
    have d2:=c2;try simp at d2
    refine wa_ (zB (w_ (bE (h:=W3 (h:=nE (h:=zA ?_))))));refine c_ (h1:=?_) (h2:=?_)
    rotate_right 1
    focus
     intro c3;first|exact dn c3|(
      have d3:=c3;try simp at d3
      refine wa_ (zB (w_ (bE (h:=W3 (h:=nE (h:=zA ?_))))));refine c_ (h1:=?_) (h2:=?_)
      rotate_right 1
      focus
       intro c4;first|exact dn c4|(
        have d4:=c4;try simp at d4
        refine wa_ (zB (w_ (bE (h:=W3 (h:=nE (h:=zA ?_))))));refine c_ (h1:=?_) (h2:=?_)
        rotate_right 1
        focus
         intro c5;first|exact dn c5|(
          have d5:=c5;try simp at d5
          refine zC ?_)
        rotate_right 1
        focus
         intro c5;first|exact dn c5|(
          have d5:=c5;try simp at d5
          exfalso;simp at c5;omega))
      rotate_right 1
      focus
       intro c4;first|exact dn c4|(
        have d4:=c4;try simp at d4
        exfalso;simp at c4;omega))
    rotate_right 1
    focus
     intro c3;first|exact dn c3|(
      have d3:=c3;try simp at d3
      exfalso;simp at c3;omega))
  rotate_right 1
  focus
   intro c2;first|exact dn c2|(
    have d2:=c2;try simp at d2
    exfalso;simp at c2;omega)
  all_goals refine zI ?_
  all_goals first
  | (
   refine zA ?_;refine wa_ (zB (wM (h:=W3 (h:=nE (h:=zA (zF ?_))))))))
 all_goals (refine qX (hr:=(zL rfl zM)) (h:=?_);(focus (simp[hT1])))
theorem qJx (c:List Int) (w a:Nat) (hc:okS c) (hw5:w<1000) (ha:a<600000000):∃z a',z.length<=201/\(∀x∈z,x.row.length<=w+5)/\a'<=a+50 * w+150/\oc.call 98 [.iop (qZ c a),.int .i64 w]=some (.lst true 2 (ets false z),[qZ c a']):=by
 obtain⟨d1,d2,d3⟩:=vG c w a;obtain⟨z,hz⟩:∃z,vJ c w a=z:=⟨_,rfl⟩;obtain⟨A,hA⟩:∃A,zCn c w a=A:=⟨_,rfl⟩;rw[hz] at d1 d2;rw[hA] at d3;rcases Nat.eq_zero_or_pos z.length with h0|h0
 ·have hz0:z=[]:=List.eq_nil_of_length_eq_zero h0
  subst hz0
  have:=zDv rfl rfl (r_bE c w a hc hw5 ha hz)
  rw[hA] at this;exact⟨[],A,by simp,fun x hx=>(by cases hx),by omega,by simpa [V.half] using this⟩
 ·obtain⟨i1,i2⟩:=jL (c:=c) (a:=A) (n:=z.length) (by omega)
  obtain⟨I,hI⟩:∃I:Nat,jQ c A z.length=(I:Int):=⟨(jQ c A z.length).toNat,by omega⟩;have hIl:I<z.length:=by omega
  obtain⟨x,hx⟩:∃x,z[I]? = some x:=⟨z[I],by simp[hIl]⟩;have hxm:=d2 x (List.mem_of_getElem? hx);obtain⟨k1,k2⟩:=jL (c:=c) (a:=A+1) (n:=20) (by omega)
  by_cases e0:jQ c (A+1) 20=0
  ·have:=zDv rfl rfl (r_b0 c w a A I z hc hw5 ha hz hA h0 hI e0 x hx)
   obtain⟨b1,b2⟩:=qA2 c (A+2)
   have hsh:V.shareL ((ets false z).set I (V.agg [.lst true 1 (ints (zFe c (A+2)).1),.int .i64 x.w]))=ets false (z.set I ⟨(zFe c (A+2)).1,x.w⟩):=by
    rw[jB,List.map_set,<- jB,kO];simp[V.share,V.shareL,zBz]
   refine⟨z.set I ⟨(zFe c (A+2)).1,x.w⟩,(zFe c (A+2)).2,by simp;omega,fun y hy=>?_,by omega,by simpa [V.half,hsh] using this⟩;rcases List.mem_or_eq_of_mem_set hy with hy|rfl
   ·have:=d2 y hy;omega
   ·simp only;omega
  ·by_cases e1:jQ c (A+1) 20=1
   ·have:=zDv rfl rfl (r_b1 c w a A I z hc hw5 ha hz hA h0 hI e1 x hx)
    refine⟨_,A+3,?_,fun y hy=>?_,by omega,by simpa [V.half] using this⟩
    ·simp;omega
    ·rcases List.mem_or_eq_of_mem_set hy with hy|rfl
     ·have:=d2 y hy;omega
     ·simp only;omega
   ·by_cases e2:jQ c (A+1) 20=2
    ·have:=zDv rfl rfl (r_b2 c w a A I z hc hw5 ha hz hA h0 hI e2 x hx)
     refine⟨z++[x],A+2,by simp;omega,fun y hy=>?_,by omega,by simpa [V.half] using this⟩;rcases List.mem_append.1 hy with hy|hy
     ·have:=d2 y hy;omega
     ·rw[List.mem_singleton.1 hy];omega
    ·by_cases e3:jQ c (A+1) 20=3
     ·have:=zDv rfl rfl (r_b3 c w a A I z hc hw5 ha hz hA h0 hI e3 x hx)
      refine⟨List.replicate 201 ⟨[],0⟩,A+2,by simp,fun y hy=>?_,by omega,by simpa [V.half] using this⟩;rw[List.eq_of_mem_replicate hy];simp
     ·have:=zDv rfl rfl (r_b4 c w a A I z hc hw5 ha hz hA h0 hI (by omega) x hx)
      exact⟨z,A+2,by omega,fun y hy=>(by have:=d2 y hy;omega),by omega,by simpa [V.half] using this⟩
theorem zU4 (a b:Int):oc.call 38 [.int .i64 a,.int .i64 b]=some (.int .i64 (max a b),[]):=by
 refine qA rfl cd38 rfl rfl rfl (by simp;rfl) (by simp;rfl) ?_;refine wa_ (zB (W3 (h:=nE (h:=zA (wa_ (wa_ (zB (wM (h:=wM (h:=w_ (b_ (h:=nE (h:=?_)))))))))))));refine zA ?_;refine c_ (h1:=?_) (h2:=?_)
 rotate_right 1
 focus
  intro c1;first|exact dn c1|(
   have d1:=c1;try simp at d1
   refine zC ?_)
 rotate_right 1
 focus
  intro c1;first|exact dn c1|(
   have d1:=c1;try simp at d1
   refine wa_ (zB (wM (h:=W3 (h:=nE (h:=zA (zF ?_)))))))
 all_goals first|refine zK ?_|(
  refine zA ?_;refine wa_ (zB (wM (h:=W3 (h:=nE (h:=zA (zF ?_)))))))
 all_goals (refine qX (hr:=(zL rfl zM)) (h:=?_);(focus (simp;omega)))
theorem zZg (c:List Int) (hc:okS c):∃r,oc.call 33 [.lst false 0 (bys c)]=some r/\(∃(pl:List Nd) (n w sf:Int) (z:List Et),r=(.tup [.lst false 0 (nds false 0 pl),.int .i64 n,.int .i64 w,.int .i64 sf,.lst true 2 (ets false z)],[])/\planP pl/\z.length<=201/\(∀x∈z,x.row.length<=8)):=by
 refine qAd (Q:=fun r=>∃(pl:List Nd) (n w sf:Int) (z:List Et),r=(.tup [.lst false 0 (nds false 0 pl),.int .i64 n,.int .i64 w,.int .i64 sf,.lst true 2 (ets false z)],[])/\planP pl/\z.length<=201/\(∀x∈z,x.row.length<=8)) rfl cd33 rfl rfl rfl (by simp;rfl) (by simp;rfl) ?_;obtain⟨pl,a1,hb,hp,h1⟩:=qCl c 0 hc (by omega);have hpl:=hp.1;have hv:=jL (c:=c) (a:=a1+5) (n:=3) (by omega);obtain⟨v,hvv⟩:∃v:Nat,jQ c (a1+5) 3=(v:Int):=⟨(jQ c (a1+5) 3).toNat,by omega⟩;have hnv:=qF c (a1+5) 3 hc (by omega) (by omega);rw[hvv] at hnv hv;obtain⟨z,a2,hz1,hz2,ha2,hbt⟩:=qJx c (1+v) (a1+6) hc (by omega) (by omega);obtain⟨w,hw⟩:∃w:Int,at0 [1,2,3,2,3,0,4] (jQ c a1 (([1,2,3,2,3,0,4]:List Int).length:Nat))=w:=⟨_,rfl⟩;have hp1:=kQ c a1 [1,2,3,2,3,0,4] hc (by omega) (by simp) (by simp);rw[hw] at hp1;have hT:(ets false z).take z.length=ets false z:=List.take_of_length_le (by simp);refine wa_ (zB (w_ (aN (h:=W3 (h:=W3 (h:=W3 (h:=w_ (aN (h:=nE (h:=zA (wa_ (zB (wM (h:=?_))))))))))))));refine iE (h:=?_);apply Exists.intro;apply Exists.intro;apply Exists.intro;apply And.intro
 focus
  apply zTk (by rw[zRr];rfl) cd97 rfl rfl (by simp;rfl);refine wa_ (zB (w_ (aN (h:=W3 (h:=W3 (h:=W3 (h:=w_ (aP (h:=nE (h:=zA (wa_ (zB (wM (h:=?_))))))))))))));refine iE (h:=?_);apply Exists.intro;apply Exists.intro;apply Exists.intro;apply And.intro
  focus
   apply zTk (by rw[zRr];rfl) cd34 rfl rfl (by simp;rfl);refine wa_ (zB (w_ (aP (h:=nE (h:=zA (wa_ (zB (wM (h:=w_ (bd (h:=w_ (bx (h:=W3 (h:=nE (h:=?_)))))))))))))));refine zA (zF ?_);exact⟨by simp,_,rfl,rfl,rfl⟩
  refine⟨_,(by(simp;rfl)),?_⟩;refine W3 (h:=nE (h:=zA (wa_ (zB (wM (h:=w_ (cP (hc:=hb) (h:=W3 (h:=nE (h:=zA (wa_ (zB ?_))))))))))));refine wM (h:=w_ (le (h:=W3 (h:=nE (h:=zA (wa_ (zB (wM (h:=w_ (bs (h:=?_)))))))))))
  first|refine w_ (cPT (hc:=hp1) (h:=?_))|refine w_ (cPT (hc:=kQ c (a1+3) [jQ c (a1+1) (max 1 (pl.length:Int)),IntKind.i64.wrap ((pl.length:Int) - 1),jQ c (a1+1+1) (max 1 (pl.length:Int)),(pl.length:Int),-1] hc (by omega) (by simp) (by simp)) (h:=?_))|refine w_ (cPT (hc:=kQ c (a1+4) [0,0,1,IntKind.i64.wrap (w - 1),w,-1] hc (by omega) (by simp) (by simp)) (h:=?_))
  refine W3 (h:=nE (h:=zA (wa_ (zB (wM (h:=wM (h:=wM (h:=wM (h:=w_ (ca (hc:=zU4 1 (pl.length:Int)) (h:=?_)))))))))))
  first|refine w_ (cP (hc:=qF c (a1+1) (max 1 (pl.length:Int)) hc (by omega) (by omega)) (h:=?_))|refine w_ (cP (hc:=qF c (a1+1+1) (max 1 (pl.length:Int)) hc (by omega) (by omega)) (h:=?_))|refine w_ (cP (hc:=hnv) (h:=?_))
  refine wM (h:=w_ (b_ (h:=wM (h:=wM (h:=w_ (ca (hc:=zU4 1 (pl.length:Int)) (h:=?_)))))))
  first|refine w_ (cP (hc:=qF c (a1+1) (max 1 (pl.length:Int)) hc (by omega) (by omega)) (h:=?_))|refine w_ (cP (hc:=qF c (a1+1+1) (max 1 (pl.length:Int)) hc (by omega) (by omega)) (h:=?_))|refine w_ (cP (hc:=hnv) (h:=?_))
  refine wM (h:=w_ (bs (h:=?_)))
  first|refine w_ (cPT (hc:=hp1) (h:=?_))|refine w_ (cPT (hc:=kQ c (a1+3) [jQ c (a1+1) (max 1 (pl.length:Int)),IntKind.i64.wrap ((pl.length:Int) - 1),jQ c (a1+1+1) (max 1 (pl.length:Int)),(pl.length:Int),-1] hc (by omega) (by simp) (by simp)) (h:=?_))|refine w_ (cPT (hc:=kQ c (a1+4) [0,0,1,IntKind.i64.wrap (w - 1),w,-1] hc (by omega) (by simp) (by simp)) (h:=?_))
  refine wM (h:=wM (h:=wM (h:=w_ (b_ (h:=wM (h:=w_ (bs (h:=?_))))))))
  first|refine w_ (cPT (hc:=hp1) (h:=?_))|refine w_ (cPT (hc:=kQ c (a1+3) [jQ c (a1+1) (max 1 (pl.length:Int)),IntKind.i64.wrap ((pl.length:Int) - 1),jQ c (a1+1+1) (max 1 (pl.length:Int)),(pl.length:Int),-1] hc (by omega) (by simp) (by simp)) (h:=?_))|refine w_ (cPT (hc:=kQ c (a1+4) [0,0,1,IntKind.i64.wrap (w - 1),w,-1] hc (by omega) (by simp) (by simp)) (h:=?_))
  refine wM (h:=W3 (h:=W3 (h:=W3 (h:=W3 (h:=W3 (h:=nE (h:=zA (zF ?_))))))));exact⟨by simp,_,rfl,rfl,rfl⟩
 refine⟨_,(by(simp;rfl)),?_⟩;refine wM (h:=w_ (ex (h:=w_ (ex (h:=w_ (ex (h:=w_ (ex (h:=w_ (ex (h:=W3 (h:=W3 (h:=W3 (h:=W3 (h:=W3 (h:=nE (h:=?_)))))))))))))))));refine zA (wa_ (zB (wM (h:=wM (h:=wM (h:=wM (h:=wM (h:=wM (h:=?_)))))))))
 first|refine w_ (cP (hc:=qF c (a1+1) (max 1 (pl.length:Int)) hc (by omega) (by omega)) (h:=?_))|refine w_ (cP (hc:=qF c (a1+1+1) (max 1 (pl.length:Int)) hc (by omega) (by omega)) (h:=?_))|refine w_ (cP (hc:=hnv) (h:=?_))
 refine w_ ?_;refine b_ (hv:=yF (c:=1+v) (by simp) (by omega)) (h:=?_);refine w_ (cP (hc:=hbt) (h:=W3 (h:=W3 (h:=W3 (h:=W3 (h:=W3 (h:=nE (h:=zA (zF ?_)))))))))
 all_goals (refine zXy (Q:=fun r=>∃(pl:List Nd) (n w sf:Int) (z:List Et),r=(.tup [.lst false 0 (nds false 0 pl),.int .i64 n,.int .i64 w,.int .i64 sf,.lst true 2 (ets false z)],[])/\planP pl/\z.length<=201/\(∀x∈z,x.row.length<=8)) (hr:=(zL rfl (zL rfl (zL rfl (zL rfl (zL rfl zM)))))) (h:=?_);(focus (exact⟨pl,_,_,_,z,by simp[hT];exact⟨rfl,rfl,rfl⟩,hp,hz1,fun x hx=>by have:=hz2 x hx;omega⟩)))
theorem widD {pl:List Nd} (hp:planP pl) {n:Int} (h:zAm pl n=0):∃wd:Nat,1<=wd/\wd<=4/\oc.call 41 [.lst false 0 (nds false 0 pl),.int .i64 n]=some (.int .i64 (wd:Int),[]):=by
 obtain⟨h1,h2,h3⟩:=jR h;obtain⟨g1,g2,g3,g4⟩:=jA hp.ok h1;have hw:=g3 n.toNat (by omega);rw[Int.toNat_of_nonneg h2] at hw;have hl:=hp.1;refine⟨(at0 (jT pl) n).toNat,by omega,by omega,?_⟩
 have:=xR pl (jT pl) (by omega) g1 n h2 (by rw[g2];exact h3)
 rw[Int.toNat_of_nonneg (by omega)];exact this
theorem zU2 (c:List Int) (hc:okS c):∃r,vW oc cf 8 [.lst false 0 (bys c)]=some r/\(∃(pl:List Nd) (n w sf:Int) (z:List Et) (ep:Int),r=(.tup [.lst false 0 (nds false 0 pl),.int .i64 n,.int .i64 w,.int .i64 sf,.lst true 2 (ets false z),.int .i64 ep],[])/\planP pl/\z.length<=201/\(∀x∈z,x.row.length<=8)):=by
 refine qBd (Q:=fun r=>∃(pl:List Nd) (n w sf:Int) (z:List Et) (ep:Int),r=(.tup [.lst false 0 (nds false 0 pl),.int .i64 n,.int .i64 w,.int .i64 sf,.lst true 2 (ets false z),.int .i64 ep],[])/\planP pl/\z.length<=201/\(∀x∈z,x.row.length<=8)) cd8 rfl rfl rfl (by simp;rfl) (by simp;rfl) ?_;obtain⟨_,hd,pl,n,w,sf,z,rfl,hp,hz1,hz2⟩:=zZg c hc;have hpl:=hp.1;have hok:=hp.ok;have hv:=jL (c:=c) (a:=2) (n:=2) (by omega);obtain⟨v,hvv⟩:∃v:Nat,jQ c 2 2=(v:Int):=⟨(jQ c 2 2).toNat,by omega⟩;have hnv:=qF c 2 2 hc (by omega) (by omega);rw[hvv] at hnv hv;have hT:(ets false z).take z.length=ets false z:=List.take_of_length_le (by simp);refine wa_ (zB (w_ (aN (h:=W3 (h:=W3 (h:=W3 (h:=w_ (aN (h:=W3 (h:=nE (h:=zA (wa_ (zB ?_)))))))))))));refine wM (h:=w_ (ca (hc:=hd) (h:=wM (h:=w_ (ex (h:=w_ (ex (h:=w_ (ex (h:=w_ (ex (h:=w_ (ex (h:=W3 (h:=W3 (h:=W3 (h:=W3 (h:=?_))))))))))))))))));refine W3 (h:=nE (h:=zA (wa_ (zB (wM (h:=?_))))));refine iE (h:=?_);apply Exists.intro;apply Exists.intro;apply Exists.intro;apply And.intro
 focus
  apply zTk (by rw[zRr];rfl) cd34 rfl rfl (by simp;rfl);refine wa_ (zB (w_ (aP (h:=nE (h:=zA (wa_ (zB (wM (h:=w_ (bd (h:=w_ (bx (h:=W3 (h:=nE (h:=?_)))))))))))))));refine zA (zF ?_);exact⟨by simp,_,rfl,rfl,rfl⟩
 refine⟨_,(by(simp;rfl)),?_⟩;refine W3 (h:=nE (h:=zA (wa_ (wa_ (zB (wM (h:=w_ (ca (hc:=zOp pl (by omega) hok) (h:=w_ (bE (h:=wM (h:=?_))))))))))));refine gw_ (h1:=?_) (h2:=?_)
 rotate_right 1
 focus
  intro c1;first|exact dn c1|(
   have d1:=c1;try simp at d1
   refine go_ (h:=go_ (h:=go_ (h:=?_))))
 rotate_right 1
 focus
  intro c1;first|exact dn c1|(
   have d1:=c1;try simp at d1
   refine g_ (h:=wM (h:=?_))
   first|refine g_ (h:=w_ (cP (hc:=yO c 0 4 hc (by omega) (by omega)) (h:=?_)))|refine g_ (h:=w_ (cP (hc:=yO c 0 6 hc (by omega) (by omega)) (h:=?_)))|refine g_ (h:=w_ (cP (hc:=yO c 1 6 hc (by omega) (by omega)) (h:=?_)))|refine g_ (h:=w_ (cP (hc:=yO c 4 6 hc (by omega) (by omega)) (h:=?_)))
   refine g_ (h:=w_ (u_ (h:=?_))))
 all_goals
  refine w_ (pk (h:=nE (h:=?_)))
 all_goals first
 | (
  refine zA ?_;refine c_ (h1:=?_) (h2:=?_)
  rotate_right 1
  focus
   intro c2;first|exact dn c2|(
    have d2:=c2;try simp at d2
    refine zC ?_)
  rotate_right 1
  focus
   intro c2;first|exact dn c2|(
    have d2:=c2;try simp at d2
    refine wa_ (zB (wM (h:=wM (h:=w_ (le (h:=w_ ?_))))));refine b_ (hv:=zFx (c:=(pl.length:Int) - 1) (by simp) (by omega) (by omega)) (h:=?_);refine w_ (ca (hc:=zU4 1 ((pl.length:Int) - 1)) (h:=?_))
    first|refine w_ (cP (hc:=qF c 1 (max 1 ((pl.length:Int) - 1)) hc (by omega) (by omega)) (h:=?_))|refine w_ (cP (hc:=hnv) (h:=?_))|refine w_ (cP (hc:=qF c 3 ((2+v:Nat):Int) hc (by omega) (by omega)) (h:=?_))
    refine W3 (h:=nE (h:=zA (wa_ (zB (wM (h:=?_))))))
    first|refine w_ (cP (hc:=qF c 1 (max 1 ((pl.length:Int) - 1)) hc (by omega) (by omega)) (h:=?_))|refine w_ (cP (hc:=hnv) (h:=?_))|refine w_ (cP (hc:=qF c 3 ((2+v:Nat):Int) hc (by omega) (by omega)) (h:=?_))
    refine w_ ?_;refine b_ (hv:=yF (c:=2+v) (by simp) (by omega)) (h:=?_);refine W3 (h:=nE (h:=zA (zB (wM (h:=wM (h:=?_))))))
    first|refine w_ (cP (hc:=qF c 1 (max 1 ((pl.length:Int) - 1)) hc (by omega) (by omega)) (h:=?_))|refine w_ (cP (hc:=hnv) (h:=?_))|refine w_ (cP (hc:=qF c 3 ((2+v:Nat):Int) hc (by omega) (by omega)) (h:=?_))
    refine W3 (h:=nE (h:=?_))))
 all_goals first
 | (
  refine zA ?_;refine wa_ (wa_ (zB (wM (h:=wM (h:=w_ (ca (hc:=zL8 pl _ (by omega) hok) (h:=w_ (bE (h:=wM (h:=?_))))))))));refine gw_ (h1:=?_) (h2:=?_)
  rotate_right 1
  focus
   intro c3;first|exact dn c3|(
    have d3:=c3;try simp at d3
    refine go_ (h:=go_ (h:=go_ (h:=?_))))
  rotate_right 1
  focus
   intro c3;first|exact dn c3|(
    have d3:=c3;try simp at d3
    obtain⟨wd,hw1,hw2,hwc⟩:=widD hp d3;obtain⟨ds1,dr1,da1⟩:=vG c wd 1;obtain⟨ds2,dr2,da2⟩:=vG c wd 2;obtain⟨ds5,dr5,da5⟩:=vG c wd 5;have hT1:(ets false (vJ c wd 1)).take (vJ c wd 1).length=ets false (vJ c wd 1):=List.take_of_length_le (by simp);have hT2:(ets false (vJ c wd 2)).take (vJ c wd 2).length=ets false (vJ c wd 2):=List.take_of_length_le (by simp);have hT5:(ets false (vJ c wd 5)).take (vJ c wd 5).length=ets false (vJ c wd 5):=List.take_of_length_le (by simp);refine g_ (h:=wM (h:=?_))
    first|refine g_ (h:=w_ (cP (hc:=yO c 0 4 hc (by omega) (by omega)) (h:=?_)))|refine g_ (h:=w_ (cP (hc:=yO c 0 6 hc (by omega) (by omega)) (h:=?_)))|refine g_ (h:=w_ (cP (hc:=yO c 1 6 hc (by omega) (by omega)) (h:=?_)))|refine g_ (h:=w_ (cP (hc:=yO c 4 6 hc (by omega) (by omega)) (h:=?_)))
    refine g_ (h:=w_ (u_ (h:=?_))))
  all_goals
   refine w_ (pk (h:=nE (h:=?_)))
  all_goals first
  | (
   refine zA ?_;refine c_ (h1:=?_) (h2:=?_)
   rotate_right 1
   focus
    intro c4;first|exact dn c4|(
     have d4:=c4;try simp at d4
     refine zC ?_)
   rotate_right 1
   focus
    intro c4;first|exact dn c4|(
     have d4:=c4;try simp at d4
     refine zB (wM (h:=wM (h:=wM (h:=w_ (ca (hc:=hwc) (h:=?_))))))
     first|refine w_ (cP (hc:=zDc c wd 1 hc (by omega) (by omega)) (h:=?_))|refine w_ (cP (hc:=zDc c wd 2 hc (by omega) (by omega)) (h:=?_))|refine w_ (cP (hc:=zDc c wd 5 hc (by omega) (by omega)) (h:=?_))
     refine W3 (h:=nE (h:=?_))))
  all_goals first
  | (
   refine zA ?_;refine wa_ (zB (wM (h:=wM (h:=wM (h:=wM (h:=wM (h:=wM (h:=w_ (bs (h:=?_))))))))))
   first|refine w_ (cPT (hc:=kQ c 0 [0,1,2,1,0,1000,1001,-1] hc (by omega) (by simp) (by simp)) (h:=?_))|refine w_ (cPT (hc:=kQ c 1 [0,1,2,1,0,1000,1001,-1] hc (by omega) (by simp) (by simp)) (h:=?_))|refine w_ (cPT (hc:=kQ c 2 [0,1,2,1,0,1000,1001,-1] hc (by omega) (by simp) (by simp)) (h:=?_))|refine w_ (cPT (hc:=kQ c 4 [0,1,2,1,0,1000,1001,-1] hc (by omega) (by simp) (by simp)) (h:=?_))|refine w_ (cPT (hc:=kQ c 5 [0,1,2,1,0,1000,1001,-1] hc (by omega) (by simp) (by simp)) (h:=?_))|refine w_ (cPT (hc:=kQ c (zCn c wd 1) [0,1,2,1,0,1000,1001,-1] hc (by omega) (by simp) (by simp)) (h:=?_))|refine w_ (cPT (hc:=kQ c (zCn c wd 2) [0,1,2,1,0,1000,1001,-1] hc (by omega) (by simp) (by simp)) (h:=?_))|refine w_ (cPT (hc:=kQ c (zCn c wd 5) [0,1,2,1,0,1000,1001,-1] hc (by omega) (by simp) (by simp)) (h:=?_))
   refine W3 (h:=W3 (h:=W3 (h:=W3 (h:=W3 (h:=W3 (h:=nE (h:=zA (zF ?_))))))))))
 all_goals (refine zXy (Q:=fun r=>∃(pl:List Nd) (n w sf:Int) (z:List Et) (ep:Int),r=(.tup [.lst false 0 (nds false 0 pl),.int .i64 n,.int .i64 w,.int .i64 sf,.lst true 2 (ets false z),.int .i64 ep],[])/\planP pl/\z.length<=201/\(∀x∈z,x.row.length<=8)) (hr:=(zL rfl (zL rfl (zL rfl (zL rfl (zL rfl (zL rfl zM))))))) (h:=?_);(focus (first|exact⟨pl,_,_,_,z,_,(by simp[hT];exact⟨rfl,rfl,rfl,rfl⟩),hp,hz1,hz2⟩|exact⟨pl,_,_,_,vJ c wd 1,_,(by simp[hT1];exact⟨rfl,rfl,rfl,rfl⟩),hp,by omega,fun x hx=>by have:=dr1 x hx;omega⟩|exact⟨pl,_,_,_,vJ c wd 2,_,(by simp[hT2];exact⟨rfl,rfl,rfl,rfl⟩),hp,by omega,fun x hx=>by have:=dr2 x hx;omega⟩|exact⟨pl,_,_,_,vJ c wd 5,_,(by simp[hT5];exact⟨rfl,rfl,rfl,rfl⟩),hp,by omega,fun x hx=>by have:=dr5 x hx;omega⟩)))
theorem zY4 (c:List Int) (hc:okS c):∃(pl:List Nd) (n w sf:Int) (z:List Et) (ep:Int),oc.call 8 [.lst false 0 (bys c)]=some (.tup [.lst false 0 (nds false 0 pl),.int .i64 n,.int .i64 w,.int .i64 sf,.lst false 0 (ets false z),.int .i64 ep],[])/\planP pl/\z.length<=201/\(∀x∈z,x.row.length<=8):=by
 obtain⟨_,h,pl,n,w,sf,z,ep,rfl,hp,h1,h2⟩:=zU2 c hc;refine⟨pl,n,w,sf,z,ep,?_,hp,h1,h2⟩
 have:=zDv (by rfl) (by rfl) h
 rw[this];simp[V.half,V.shareL,V.share]
end Go.Proofs.YtbcgenkegnmkhaaGreat.Ev
namespace Go.Proofs.YtbcgenkegnmkhaaGreat.Ev
open Go
set_option maxRecDepth 100000
set_option linter.unusedSimpArgs false
set_option linter.unusedVariables false
set_option maxHeartbeats 2000000
def rtf (pl:List Nd) (a m sf:Int) (r:List Int):Int:=zOm pl a m sf r
theorem qM6 (pl:List Nd) (a sf:Int) (z:List Et) (m:Nat) (hp:pl.length<2000000) (hk:okN pl) (hc:jU pl a m sf=0) (hz:jY z<2000000) (hm:0<m) (hm2:m<2000000) (h1:zEb z (zEk pl a)=false):∀i:Nat,(i<=z.length)->∀s,zH 5 (some [0,1,2,3,4,11,12]) s=⟨[(0,.lst false 0 (nds false 0 pl)),(1,.int .i64 a),(2,.int .i64 m),(3,.int .i64 sf),(4,.lst false 0 (ets false z)),(11,.ref 5 0 m),(12,.int .i64 i)],[(5,⟨false,false,1,yG true (jF (rtf pl a m sf) m (z.take i)),0⟩)],6⟩ ->
 oc.loop 110 3 s=some (.exit 0,⟨[(11,.ref 5 0 m)],[(5,⟨false,false,1,yG true (jF (rtf pl a m sf) m z),0⟩)],6⟩):=by
 refine zV (σ:=Nat) (fun i=>z.length - i) _ (fun i=>⟨[(0,.lst false 0 (nds false 0 pl)),(1,.int .i64 a),(2,.int .i64 m),(3,.int .i64 sf),(4,.lst false 0 (ets false z)),(11,.ref 5 0 m),(12,.int .i64 i)],[(5,⟨false,false,1,yG true (jF (rtf pl a m sf) m (z.take i)),0⟩)],6⟩) _ ?_;intro i hi ih s hs;refine qD qK2 rfl rfl hs ?_;have hzl:=kY (l:=z);refine wa_ (wa_ (zB (wM (h:=wM (h:=w_ (le (h:=w_ (b_ (h:=nE (h:=zA ?_))))))))));refine c_ (h1:=?_) (h2:=?_)
 rotate_right 1
 focus
  intro c1;first|exact dn c1|(
   have d1:=c1;try simp at d1
   refine zW ?_)
 rotate_right 1
 focus
  intro c1;first|exact dn c1|(
   have d1:=c1;try simp at d1
   have hw:=zU (i:=i) (by omega);obtain⟨c,hx,e1,g1⟩:=zBk (t:=false) (l:=z) (i:=i) (by omega);have hcm:=List.mem_of_getElem? hx;have hcr:=qAp hz hcm;have hlong:=zN5 h1 hcm;have hsh:=zO7 (r:=c.row) hc;obtain⟨q,hq,hql,hqs⟩:=zGj (f:=rtf pl a m sf) (m:=m) hx hsh.1 hsh.2;have g2:(yG true (jF (rtf pl a m sf) m (z.take i)))[(zOm pl a m sf c.row).toNat]? = some (.lst true 2 (ets true q)):=zFu (t:=true) hq;change (jF (rtf pl a m sf) m (z.take i)).set (zOm pl a m sf c.row).toNat (q++[c])=_ at hqs;have hqt:List.take (q.length+1) (q++[({ row:=c.row,w:=c.w }:Et)])=q++[c]:=List.take_of_length_le (by simp);refine zC ?_)
 all_goals first|refine zR ?_|(
  refine zA ?_;refine wa_ (zG (wa_ (zB (wM (h:=wM (h:=wM (h:=wM (h:=wM (h:=wM (h:=w_ (x_ (h:=w_ (f_ (h:=?_))))))))))))));refine w_ (l_ (h:=w_ (ca (hc:=e_goS pl a m sf c.row hp hk hc hcr hlong) (h:=W3 (h:=nE (h:=zA (qE (yM (h:=yM (h:=yM (h:=yM (h:=y_ (x_ (h:=ax_ (h:=y_ (l_ (h:=ax_ (h:=?_))))))))))))))))));refine yM (h:=yM (h:=y_ (x_ (h:=ax_ (h:=y_ (f_ (h:=ax_ (h:=y_ (l_ (h:=ax_ (h:=y_ (ca (hc:=zWb c.row hcr) (h:=ax_ (h:=yM (h:=yM (h:=y_ (x_ (h:=ax_ (h:=y_ (f_ (h:=ax_ (h:=y_ (l_ (h:=ax_ (h:=y_ (bd (h:=ax_ (h:=?_))))))))))))))))))))))))))));refine y_ (bs (h:=ax_ (h:=y_ ?_)));refine apP (h:=?_);refine ax_ (h:=y_ (x_ (h:=ax_ (h:=y0 (s_ (h:=ax_ (h:=qO (ed (h:=zI (zA (zB (wM (h:=w_ (b_ (h:=W3 (h:=nE (h:=?_))))))))))))))))))
 all_goals first
 | (refine(ih (i+1) (by omega) ?_ _ ?_).trans ?_;(focus (first|omega|(simp;done)|(simp;omega)));(focus (simp[zH,hw,hqt,hqs];done));(focus (rfl)))
 | (apply zP (ex:=(Ext.exit 0)) 5 (some [11]);(focus (simp[zH];rfl));(focus (rw[List.take_of_length_le (by omega)])))
theorem qIi (pl:List Nd) (a sf:Int) (z:List Et) (m:Nat) (hp:pl.length<2000000) (hk:okN pl) (hc:jU pl a m sf=0) (hz:jY z<2000000) (hm:0<m) (hm2:m<2000000) (h1:zEb z (zEk pl a)=false):oc.call 110 [.lst false 0 (nds false 0 pl),.int .i64 a,.int .i64 m,.int .i64 sf,.lst false 0 (ets false z)]=some (.lst true 1 (yG true (jF (rtf pl a m sf) m z)),[]):=by
 refine qA rfl qK2 rfl rfl rfl (by simp;rfl) (by simp;rfl) ?_;have hzl:=kY (l:=z);refine wa_ (zB (w_ (aN (h:=nE (h:=zA (wa_ (zB (wM (h:=w_ (mk (h:=W3 (h:=nE (h:=zA ?_)))))))))))));refine wa_ (wa_ (zB (W3 (h:=nE (h:=zA (zG ?_))))));refine qH (qM6 pl a sf z m hp hk hc hz hm hm2 h1 0 (by omega) _ (by simp[zH,zIt,zLw])) ?_;refine zS (zA (wa_ (zB (wM (h:=W3 (h:=nE (h:=zA (zF ?_))))))))
 all_goals (refine qX (hr:=(zL rfl zM)) (h:=?_);(focus (first|(simp_all;done)|(simp_all<;>omega)|(simp_all<;>split<;>simp_all<;>omega))))
theorem zH5 {pl:List Nd}:∀(r:List Nd) (ws:List Int),r=pl.drop ws.length->(jO pl r ws).2=0->(jO pl r ws).1.take ws.length=ws/\∀(n:Nat) (d:Nd),ws.length<=n->pl[n]? = some d->vE pl d ((jO pl r ws).1.take n)=0
 | [],ws,e,h=>by
  have hl:pl.length<=ws.length:=by have:=congrArg List.length e;simp at this;omega
  refine⟨by simp[jO],fun n d hn hd=>?_⟩
  have:=(List.getElem?_eq_some_iff.mp hd).1
  omega
 | x::r,ws,e,h=>by
  have hx:pl[ws.length]? = some x:=by
   have:=congrArg (fun l=>l[0]?) e
   simpa using this.symm
  have hr:r=pl.drop (ws.length+1):=by
   have:=congrArg List.tail e
   simpa [List.tail_drop] using this
  by_cases hs:vE pl x ws=0
  ·have e2:jO pl (x::r) ws=jO pl r (ws++[kL x ws]):=by rw[jO,if_pos hs]
   rw[e2] at h ⊢;obtain⟨k1,k2⟩:=zH5 r (ws++[kL x ws]) (by simpa using hr) h
   have k3:(jO pl r (ws++[kL x ws])).1.take ws.length=ws:=by
    have:=congrArg (List.take ws.length) k1
    rw[List.take_take,List.take_left' rfl] at this
    simpa using this
   refine⟨k3,fun n d hn hd=>?_⟩
   by_cases hc:n=ws.length
   ·subst hc
    rw[hx] at hd;cases hd;rw[k3];exact hs
   ·exact k2 n d (by simp;omega) hd
  ·exfalso
   rw[jO,if_neg hs] at h;exact hs h
theorem zXs {pl:List Nd} (h:(yD pl).2=0) {n:Nat} {d:Nd} (hd:pl[n]? = some d):vE pl d ((jT pl).take n)=0:=by
 unfold jT;unfold yD at h ⊢;split at h
 ·cases h
 ·rename_i hl
  rw[if_neg hl];split at h
  ·rename_i h0
   rw[if_pos h0];exact(zH5 pl [] rfl h0).2 n d (by simp) hd
  ·exact absurd h ‹_›
theorem zY9 {pl:List Nd} (h:(yD pl).2=0) {n:Nat} {d:Nd} (hd:pl[n]? = some d):zBe d ((jT pl).take n)=0:=by
 have hs:=zXs h hd;unfold vE at hs;split at hs
 ·cases hs
 ·split at hs
  ·cases hs
  ·split at hs
   ·cases hs
   ·exact hs
theorem qNi {pl:List Nd} (hk:okN pl) (h:(yD pl).2=0) {m:Int} (h0:0<=m) {d:Nd} (hd:pl[m.toNat]? = some d) {a:Int} (ha:kZ d a=true):0<=a/\a<m/\zEk pl m<=at0 (jT pl) a:=by
 have hf:=zY9 h hd;obtain⟨i1,i2,i3⟩:=zUp hk h h0 hd;obtain⟨g1,g2,g3,g4⟩:=jA hk h;have hml:=(List.getElem?_eq_some_iff.mp hd).1;have hnd:xH pl m=d:=by unfold xH;simp[List.getD,hd]
 have tk:∀b:Int,0<=b->b<m->at0 ((jT pl).take m.toNat) b=at0 (jT pl) b:=fun b hb1 hb2=>zFk (by omega)
 have wb:∀b:Int,0<=b->b<m->1<=at0 (jT pl) b/\at0 (jT pl) b<=4:=fun b hb1 hb2=>by
  have:=g3 b.toNat (by omega)
  rwa [Int.toNat_of_nonneg hb1] at this
 unfold kZ qB at ha
 by_cases o1:d.op=1
 ·rw[if_pos o1] at ha;simp at ha
 ·rw[if_neg o1] at ha
  have ia:=i2 o1;have wa:=wb d.a ia.1 ia.2;have ta:=tk d.a ia.1 ia.2;unfold zEk;rw[hnd];unfold zBe at hf;rw[if_neg o1,ta] at hf
  by_cases o46:d.op=4\/d.op=6
  ·rw[if_pos o46] at ha
   have ib:=i3 o46;have wbb:=wb d.b ib.1 ib.2;have tb:=tk d.b ib.1 ib.2;rw[tb] at hf;have hab:a=d.a\/a=d.b:=by simpa using ha
   refine⟨by omega,by omega,?_⟩;rcases o46 with o4|o6
   ·rw[if_neg (by omega),if_neg (by omega),if_pos o4] at hf
    have heq:at0 (jT pl) d.a=at0 (jT pl) d.b:=by
     by_cases e:at0 (jT pl) d.a=at0 (jT pl) d.b
     ·exact e
     ·rw[if_neg e] at hf;cases hf
    rw[if_neg (by omega)];rcases hab with rfl|rfl<;>omega
   ·rw[if_neg (by omega),if_neg (by omega),if_neg (by omega),if_pos o6] at hf
    have hi:inI d.col 1 (min (at0 (jT pl) d.a) (at0 (jT pl) d.b))=true:=by
     cases hi:inI d.col 1 (min (at0 (jT pl) d.a) (at0 (jT pl) d.b)) with
     | true=>rfl
     | false=>rw[hi] at hf;simp at hf
    simp only[inI,Bool.and_eq_true,decide_eq_true_eq] at hi;rw[if_pos (.inr ⟨by omega,by omega⟩)];rcases hab with rfl|rfl<;>omega
  ·rw[if_neg o46] at ha
   have haa:a=d.a:=by simpa using ha
   subst haa;refine⟨by omega,by omega,?_⟩;have n4:¬d.op=4:=fun e=>o46 (.inl e)
   have n6:¬d.op=6:=fun e=>o46 (.inr e)
   by_cases hop:6<=d.op/\d.op<=10
   ·rw[if_pos (.inr hop)]
    rw[if_neg (by omega),if_neg (by omega),if_neg n4,if_neg n6] at hf
    by_cases o7:d.op=7
    ·rw[if_pos o7] at hf
     have hi:inI d.col 0 (min (at0 (jT pl) d.a) 3)=true:=by
      cases hi:inI d.col 0 (min (at0 (jT pl) d.a) 3) with
      | true=>rfl
      | false=>rw[hi] at hf;simp at hf
     simp only[inI,Bool.and_eq_true,decide_eq_true_eq] at hi;omega
    ·rw[if_neg o7,if_pos (by omega)] at hf
     have hi:inI d.col 0 (IntKind.i64.wrap (at0 (jT pl) d.a - 1))=true:=by
      cases hi:inI d.col 0 (IntKind.i64.wrap (at0 (jT pl) d.a - 1)) with
      | true=>rfl
      | false=>rw[hi] at hf;simp at hf
     rw[qL (by omega) (by omega)] at hi;simp only[inI,Bool.and_eq_true,decide_eq_true_eq] at hi;omega
   ·rw[if_neg (by omega)];omega
theorem zDr {a:Int} {m:Int}:∀{l:List Nd} {i:Nat},m∈qJ a i l->∃(k:Nat) (d:Nd),m=((i+k:Nat):Int)/\l[k]? = some d/\kZ d a=true
 | [],i,h=>by simp[qJ] at h
 | d::r,i,h=>by
  unfold qJ at h
  have step:m∈qJ a (i+1) r->∃(k:Nat) (d':Nd),m=((i+k:Nat):Int)/\(d::r)[k]? = some d'/\kZ d' a=true:=fun h=>by
   obtain⟨k,d',e,h1,h2⟩:=zDr h;exact⟨k+1,d',by rw[e];congr 1;omega,by simpa using h1,h2⟩
  split at h
  ·rename_i hr
   rcases List.mem_cons.1 h with rfl|h
   ·exact⟨0,d,rfl,rfl,hr⟩
   ·exact step h
  ·exact step h
theorem zGq {pl:List Nd} (hk:okN pl) (h:(yD pl).2=0) {a m:Int} (hm:m∈qJ a 0 pl) {z:List Et} (hz:∀e∈z,(e.row.length:Int)=at0 (jT pl) a):zEb z (zEk pl m)=false/\0<=m/\m<pl.length:=by
 obtain⟨k,d,rfl,h1,h2⟩:=zDr hm;rw[Nat.zero_add] at *;have hlt:=(List.getElem?_eq_some_iff.mp h1).1;obtain⟨k1,k2,k3⟩:=qNi hk h (m:=k) (by omega) (d:=d) (by simpa using h1) h2;refine⟨?_,by omega,by omega⟩;simp only[zEb,List.any_eq_false,decide_eq_true_eq];intro e he;rw[hz e he];omega
end Go.Proofs.YtbcgenkegnmkhaaGreat.Ev
namespace Go.Proofs.YtbcgenkegnmkhaaGreat.Ev
open Go
set_option maxRecDepth 100000
set_option linter.unusedSimpArgs false
set_option linter.unusedVariables false
set_option maxHeartbeats 2000000
theorem zC6 {z:List Et} {k:Int} (h:zOr z k=0):∀e∈z,(e.row.length:Int)=k:=by
 unfold zOr at h;split at h
 ·split at h
  ·rename_i h2
   intro e he
   have:=(List.all_eq_true.1 h2) e he
   simpa using this
  ·cases h
 ·exact absurd h ‹_›
def jG (m s ep:Int):List (List Et)->List Fr
 | []=>[]
 | p::r=>if p=[] then jG m s ep r else⟨1,m,s,ep,p,[]⟩::jG m s ep r
def vK:Nat->List (List Et)->List Int
 | _,[]=>[]
 | k,p::r=>if p=[] then vK (k+1) r else(k:Int)::vK (k+1) r
theorem zBi {m s ep:Int} {r:List (List Et)}:jG m s ep ([]::r)=jG m s ep r:=by rw[jG,if_pos rfl]
theorem zBm {m s ep:Int} {p:List Et} {r:List (List Et)} (h:p≠[]):jG m s ep (p::r)=⟨1,m,s,ep,p,[]⟩::jG m s ep r:=by rw[jG,if_neg h]
theorem zNm {k:Nat} {r:List (List Et)}:vK k ([]::r)=vK (k+1) r:=by rw[vK,if_pos rfl]
theorem zOl {k:Nat} {p:List Et} {r:List (List Et)} (h:p≠[]):vK k (p::r)=(k:Int)::vK (k+1) r:=by rw[vK,if_neg h]
theorem zAx (m s ep:Int):∀l:List (List Et),(jG m s ep l).length<=l.length
 | []=>by simp[jG]
 | p::r=>by
  have:=zAx m s ep r
  unfold jG;split<;>simp<;>omega
theorem zE2:∀(k:Nat) (l:List (List Et)),(vK k l).length<=l.length
 | _,[]=>by simp[vK]
 | k,p::r=>by
  have:=zE2 (k+1) r
  unfold vK;split<;>simp<;>omega
def qEf (p:List Et):V:=if p=[] then .lst true 2 [] else .und
def ovP (k:Nat) (l:List (List Et)):List V:=(l.take k).map qEf++yG true (l.drop k)
@[simp] theorem ovP_0 (l:List (List Et)):ovP 0 l=yG true l:=by simp[ovP]
@[simp] theorem ovP_len (k:Nat) (l:List (List Et)):(ovP k l).length=l.length:=by simp[ovP];omega
theorem zOt {k:Nat} {l:List (List Et)} {p:List Et} (h:l[k]? = some p):(ovP k l)[k]? = some (.lst true 2 (ets true p)):=by
 have hlt:=(List.getElem?_eq_some_iff.1 h).1;unfold ovP;rw[List.getElem?_append_right (by simp;omega)];simp only[List.length_map,List.length_take,Nat.min_eq_left (Nat.le_of_lt hlt),Nat.sub_self]
 have:(l.drop k)[0]? = some p:=by simpa using h
 exact zFu (t:=true) this
theorem zQy {k:Nat} {l:List (List Et)} {p:List Et} (h:l[k]? = some p):ovP (k+1) l=(ovP k l).set k (qEf p):=by
 have hlt:=(List.getElem?_eq_some_iff.1 h).1;unfold ovP;have e1:l.take (k+1)=l.take k++[p]:=by rw[List.take_add_one,h];rfl
 have e2:l.drop k=p::l.drop (k+1):=by
  have:=List.drop_eq_getElem_cons hlt
  rw[this];congr 1
  have:=List.getElem?_eq_getElem hlt
  rw[h] at this;exact(Option.some.inj this).symm
 rw[e1,e2,List.set_append_right _ _ (by simp;omega)];simp[Nat.min_eq_left (Nat.le_of_lt hlt)]
theorem zQs {k:Nat} {l:List (List Et)} (h:l[k]? = some []):ovP (k+1) l=ovP k l:=by
 rw[zQy h];apply List.ext_getElem?;intro n
 by_cases e:n=k
 ·subst e
  have h2:=zOt h;have hlt:n<(ovP n l).length:=(List.getElem?_eq_some_iff.1 h2).1;rw[List.getElem?_set_self hlt,h2];rfl
 ·rw[List.getElem?_set_ne (Ne.symm e)]
theorem zTm {k:Nat} {l:List (List Et)} {p:List Et} (h:l[k]? = some p) (hp:p≠[]):(ovP k l).set k .und=ovP (k+1) l:=by
 rw[zQy h];simp[qEf,hp]
theorem zLe (l:List Fr) (a b c d:Int) (e:List Et):frs true l++[V.agg [.int .i64 a,.int .i64 b,.int .i64 c,.int .i64 d,.lst true 2 (ets true e),.lst true 3 []]]=frs true (l++[⟨a,b,c,d,e,[]⟩]):=zSg l a b c d e []
theorem qDp (pl:List Nd) (a m sf:Int) (r:List Int) (hp:pl.length<2000000) (hk:okN pl) (hc:jU pl a m sf=0) (hr:r.length<2000000) (hl:zEk pl a<=r.length):oc.call 105 [.lst false 0 (ints r),.vptr (.lst false 0 (nds false 0 pl)),.vptr (.lst false 0 (ints (jT pl))),.vptr (.int .i64 a),.vptr (.int .i64 m),.vptr (.int .i64 sf)]=some (.int .i64 (zOm pl a m sf r),[]):=by
 refine qA rfl cd105 rfl rfl rfl (by simp;rfl) (by simp;rfl) ?_;refine wa_ (zB (W3 (h:=nE (h:=zA (wa_ (zB (w_ (l_ (h:=w_ (l_ (h:=w_ (l_ (h:=w_ (l_ (h:=w_ (l_ (h:=?_)))))))))))))))));refine wM (h:=w_ (ca (hc:=qN8 pl a m sf r hp hk hc hr hl) (h:=W3 (h:=nE (h:=zA (zF ?_))))))
 all_goals (refine qX (hr:=(zL rfl zM)) (h:=?_);(focus (first|(simp_all;done)|(simp_all<;>omega)|(simp_all<;>split<;>simp_all<;>omega))))
theorem qDi (pl:List Nd) (a sf:Int) (z:List Et) (m:Nat) (hp:pl.length<2000000) (hk:okN pl) (hc:jU pl a m sf=0) (hz:jY z<2000000) (hm:0<m) (hm2:m<2000000) (h1:zEb z (zEk pl a)=false):∀i:Nat,(i<=z.length)->∀s,zH 3 (some [2,7,13,14,15]) s=⟨[(2,.clo 105 [.vptr (.lst false 0 (nds false 0 pl)),.vptr (.lst false 0 (ints (jT pl))),.vptr (.int .i64 a),.vptr (.int .i64 m),.vptr (.int .i64 sf)]),(7,.ref 3 0 m),(13,.lst false 0 (ets false z)),(14,.int .i64 z.length),(15,.int .i64 i)],[(3,⟨false,false,1,yG true (jF (rtf pl a m sf) m (z.take i)),0⟩)],4⟩ ->
 oc.loop 104 3 s=some (.exit 0,⟨[(7,.ref 3 0 m)],[(3,⟨false,false,1,yG true (jF (rtf pl a m sf) m z),0⟩)],4⟩):=by
 refine zV (σ:=Nat) (fun i=>z.length - i) _ (fun i=>⟨[(2,.clo 105 [.vptr (.lst false 0 (nds false 0 pl)),.vptr (.lst false 0 (ints (jT pl))),.vptr (.int .i64 a),.vptr (.int .i64 m),.vptr (.int .i64 sf)]),(7,.ref 3 0 m),(13,.lst false 0 (ets false z)),(14,.int .i64 z.length),(15,.int .i64 i)],[(3,⟨false,false,1,yG true (jF (rtf pl a m sf) m (z.take i)),0⟩)],4⟩) _ ?_;intro i hi ih s hs;refine qD qM8 rfl rfl hs ?_;have hzl:=kY (l:=z);refine wa_ (zB (w_ (b_ (h:=nE (h:=zA (wa_ ?_))))));refine c_ (h1:=?_) (h2:=?_)
 rotate_right 1
 focus
  intro c1;first|exact dn c1|(
   have d1:=c1;try simp at d1
   refine zW ?_)
 rotate_right 1
 focus
  intro c1;first|exact dn c1|(
   have d1:=c1;try simp at d1
   have hw:=zU (i:=i) (by omega);obtain⟨c,hx,e1,g1⟩:=zBk (t:=false) (l:=z) (i:=i) (by omega);have hcm:=List.mem_of_getElem? hx;have hcr:=qAp hz hcm;have hlong:=zN5 h1 hcm;have hsh:=zO7 (r:=c.row) hc;obtain⟨q,hq,hql,hqs⟩:=zGj (f:=rtf pl a m sf) (m:=m) hx hsh.1 hsh.2;have g2:(yG true (jF (rtf pl a m sf) m (z.take i)))[(zOm pl a m sf c.row).toNat]? = some (.lst true 2 (ets true q)):=zFu (t:=true) hq;change (jF (rtf pl a m sf) m (z.take i)).set (zOm pl a m sf c.row).toNat (q++[c])=_ at hqs;have hqt:List.take (q.length+1) (q++[({ row:=c.row,w:=c.w }:Et)])=q++[c]:=List.take_of_length_le (by simp);refine zC ?_)
 all_goals first|refine zR ?_|(
  refine zA ?_;refine wa_ (zG (wa_ (zB (w_ (x_ (h:=w_ (l_ (h:=w_ (al (h:=w0 (s_ (h:=nE (h:=zA (wa_ (zB ?_)))))))))))))));refine wM (h:=w_ (f_ (h:=w_ (l_ (h:=w_ (ca (hc:=qDp pl a m sf c.row hp hk hc hcr hlong) (h:=W3 (h:=nE (h:=zA (qE (yM (h:=yM (h:=yM (h:=yM (h:=?_)))))))))))))));refine y_ (x_ (h:=ax_ (h:=y_ (l_ (h:=ax_ (h:=y_ (f_ (h:=ax_ (h:=y_ (l_ (h:=ax_ (h:=y_ (ca (hc:=zQe c.row hcr) (h:=ax_ (h:=y_ (f_ (h:=ax_ (h:=y_ (l_ (h:=ax_ (h:=y_ (bd (h:=ax_ (h:=y_ (bs (h:=ax_ (h:=y_ ?_)))))))))))))))))))))))))));refine apP (h:=?_);refine ax_ (h:=y_ (x_ (h:=ax_ (h:=y0 (s_ (h:=ax_ (h:=qO (ed (h:=zI (zA (zB (w_ (b_ (h:=wM (h:=nE (h:=?_)))))))))))))))))
 all_goals first
 | (refine(ih (i+1) (by omega) ?_ _ ?_).trans ?_;(focus (first|omega|(simp;done)|(simp;omega)));(focus (simp[zH,hw,hqt,hqs];done));(focus (rfl)))
 | (apply zP (ex:=(Ext.exit 0)) 3 (some [7]);(focus (simp[zH];rfl));(focus (rw[List.take_of_length_le (by omega)])))
theorem qE4 (pl:List Nd) (a sf:Int) (z:List Et) (m:Nat) (hp:pl.length<2000000) (hk:okN pl) (hc:jU pl a m sf=0) (hz:jY z<2000000) (hm:0<m) (hm2:m<2000000) (h1:zEb z (zEk pl a)=false):oc.call 104 [.int .i64 m,.lst false 0 (ets false z),.clo 105 [.vptr (.lst false 0 (nds false 0 pl)),.vptr (.lst false 0 (ints (jT pl))),.vptr (.int .i64 a),.vptr (.int .i64 m),.vptr (.int .i64 sf)]]=some (.lst true 1 (yG true (jF (rtf pl a m sf) m z)),[]):=by
 refine qA rfl qM8 rfl rfl rfl (by simp;rfl) (by simp;rfl) ?_;have hzl:=kY (l:=z);refine wa_ (zB (w_ (aN (h:=nE (h:=zA (wa_ (zB (wM (h:=w_ (mk (h:=W3 (h:=nE (h:=zA ?_)))))))))))));refine wa_ (wa_ (zB (wM (h:=w_ (le (h:=wM (h:=nE (h:=zA (zG ?_)))))))));refine qH (qDi pl a sf z m hp hk hc hz hm hm2 h1 0 (by omega) _ (by simp[zH,zIt,zLw])) ?_;refine zS (zA (wa_ (zB (wM (h:=W3 (h:=nE (h:=zA (zF ?_))))))))
 all_goals (refine qX (hr:=(zL rfl zM)) (h:=?_);(focus (first|(simp_all;done)|(simp_all<;>omega)|(simp_all<;>split<;>simp_all<;>omega))))
theorem l_sp (pl:List Nd) (z:List Et) (P:List (List Et)) (W i j:Nat) (rds rs:List Int) (m sd node sf ep:Int) (hW:P.length=W) (hw3:W<=3) (hPl:∀p∈P,p.length<2000000):∀x:Nat×(List Fr)×(List Int),(x.1<=W/\x.2.1.length+W<1000+x.1/\x.2.2.length+W<1000+x.1)->∀s,zH 7 (some [2,5,6,7,8,10,11,16,17,19,20,28,29,30,38,39,40,51,52,53]) s=⟨[(2,.int .i64 node),(5,.lst false 0 (ets false z)),(6,.int .i64 ep),(7,.ptr 7 0 []),(8,.ptr 8 0 []),(10,.ptr 9 0 []),(11,.ptr 10 0 []),(16,.ref 11 0 x.2.1.length),(17,.ref 12 0 x.2.2.length),(19,.ptr 13 0 []),(20,.int .i64 sd),(28,.ref 14 0 rds.length),(29,.int .i64 rds.length),(30,.int .i64 i),(38,.ref 15 0 rs.length),(39,.int .i64 rs.length),(40,.int .i64 j),(51,.ref 16 0 W),(52,.int .i64 W),(53,.int .i64 x.1)],[(7,⟨true,false,1,[.lst false 0 (nds false 0 pl)],0⟩),(8,⟨true,false,1,[.lst false 0 (ints (jT pl))],0⟩),(9,⟨true,false,1,[.int .i64 W],0⟩),(10,⟨true,false,1,[.int .i64 sf],0⟩),(11,⟨false,false,6,frs true x.2.1,0⟩),(12,⟨false,false,1,ints x.2.2,0⟩),(13,⟨true,false,1,[.int .i64 m],0⟩),(14,⟨false,false,1,ints rds,0⟩),(15,⟨false,false,1,ints rs,0⟩),(16,⟨false,false,1,ovP x.1 P,0⟩)],17⟩ ->
 oc.loop 46 10 s=some (.exit 4,⟨[(2,.int .i64 node),(5,.lst false 0 (ets false z)),(6,.int .i64 ep),(7,.ptr 7 0 []),(8,.ptr 8 0 []),(10,.ptr 9 0 []),(11,.ptr 10 0 []),(16,.ref 11 0 (x.2.1++jG m sd ep (P.drop x.1)).length),(17,.ref 12 0 (x.2.2++vK x.1 (P.drop x.1)).length),(19,.ptr 13 0 []),(28,.ref 14 0 rds.length),(29,.int .i64 rds.length),(30,.int .i64 i),(38,.ref 15 0 rs.length),(39,.int .i64 rs.length),(40,.int .i64 j)],[(7,⟨true,false,1,[.lst false 0 (nds false 0 pl)],0⟩),(8,⟨true,false,1,[.lst false 0 (ints (jT pl))],0⟩),(9,⟨true,false,1,[.int .i64 W],0⟩),(10,⟨true,false,1,[.int .i64 sf],0⟩),(11,⟨false,false,6,frs true (x.2.1++jG m sd ep (P.drop x.1)),0⟩),(12,⟨false,false,1,ints (x.2.2++vK x.1 (P.drop x.1)),0⟩),(13,⟨true,false,1,[.int .i64 m],0⟩),(14,⟨false,false,1,ints rds,0⟩),(15,⟨false,false,1,ints rs,0⟩)],16⟩):=by
 refine zV (σ:=Nat×(List Fr)×(List Int)) (fun x=>W - x.1) _ (fun x=>⟨[(2,.int .i64 node),(5,.lst false 0 (ets false z)),(6,.int .i64 ep),(7,.ptr 7 0 []),(8,.ptr 8 0 []),(10,.ptr 9 0 []),(11,.ptr 10 0 []),(16,.ref 11 0 x.2.1.length),(17,.ref 12 0 x.2.2.length),(19,.ptr 13 0 []),(20,.int .i64 sd),(28,.ref 14 0 rds.length),(29,.int .i64 rds.length),(30,.int .i64 i),(38,.ref 15 0 rs.length),(39,.int .i64 rs.length),(40,.int .i64 j),(51,.ref 16 0 W),(52,.int .i64 W),(53,.int .i64 x.1)],[(7,⟨true,false,1,[.lst false 0 (nds false 0 pl)],0⟩),(8,⟨true,false,1,[.lst false 0 (ints (jT pl))],0⟩),(9,⟨true,false,1,[.int .i64 W],0⟩),(10,⟨true,false,1,[.int .i64 sf],0⟩),(11,⟨false,false,6,frs true x.2.1,0⟩),(12,⟨false,false,1,ints x.2.2,0⟩),(13,⟨true,false,1,[.int .i64 m],0⟩),(14,⟨false,false,1,ints rds,0⟩),(15,⟨false,false,1,ints rs,0⟩),(16,⟨false,false,1,ovP x.1 P,0⟩)],17⟩) _ ?_;rintro⟨k,L,G⟩ hi ih s hs;simp only at hi;refine qD cd46 rfl rfl hs ?_;obtain⟨hi1,hi2,hi3⟩:=hi;refine wa_ (zB (w_ (b_ (h:=nE (h:=zA (wa_ ?_))))));refine c_ (h1:=?_) (h2:=?_)
 rotate_right 1
 focus
  intro c1;first|exact dn c1|(
   have d1:=c1;try simp at d1
   refine zW ?_)
 rotate_right 1
 focus
  intro c1;first|exact dn c1|(
   have d1:=c1;try simp at d1
   have hw:=zU (i:=k) (by omega);obtain⟨p,hx,e1,_⟩:=zAn (t:=true) (l:=P) (i:=k) (by omega);have g1:=zOt hx;have hpl:=hPl p (List.mem_of_getElem? hx);refine zC ?_)
 all_goals first|refine zR ?_|(
  refine zA ?_;refine wa_ (zG (wa_ (zB (wM (h:=w_ (x_ (h:=w_ (l_ (h:=W3 (h:=W3 (h:=nE (h:=zA (wa_ ?_)))))))))))));refine zB (wM (h:=w_ (le (h:=w_ (b_ (h:=nE (h:=zA ?_)))))));refine c_ (h1:=?_) (h2:=?_)
  rotate_right 1
  focus
   intro c2;first|exact dn c2|(
    have d2:=c2;try simp at d2
    have hpe:p=[]:=(by cases p with|nil=>rfl|cons y r=>simp at c2);subst hpe;have hsame:=zQs hx;refine zC ?_)
  rotate_right 1
  focus
   intro c2;first|exact dn c2|(
    have d2:=c2;try simp at d2
    have hpn:p≠[]:=(by intro e;subst e;simp at c2);have hcut:=zTm hx hpn;refine wa_ (zB (wM (h:=w_ (l_ (h:=wM (h:=wM (h:=wM (h:=w_ (bd (h:=w_ ?_))))))))));refine bs (hf:=by(simp[g1];rfl)) (h:=?_);refine w_ (ap (h:=W3 (h:=nE (h:=zA (zB (wM (h:=wM (h:=w_ (bs (h:=w_ (ap (h:=W3 (h:=nE (h:=?_)))))))))))))))
  all_goals refine zI ?_
  all_goals first
  | (
   refine zA ?_;refine zB (w_ (b_ (h:=wM (h:=nE (h:=?_)))))))
 all_goals first
 | (refine(ih ((k+1,L++[⟨1,m,sd,ep,p,[]⟩],G++[(k:Int)])) (⟨by simp only;omega,by simp;omega,by simp;omega⟩) ?_ _ ?_).trans ?_;(focus (first|omega|(simp;done)|(simp;omega)));(focus (simp[zH,hw,hcut,zLe];done));(focus (rw[e1,zBm hpn,zOl hpn];simp)))
 | (refine(ih ((k+1,L,G)) (⟨by simp only;omega,by simp only;omega,by simp only;omega⟩) ?_ _ ?_).trans ?_;(focus (first|omega|(simp;done)|(simp;omega)));(focus (simp[zH,hw,hsame];done));(focus (rw[e1,zBi,zNm])))
 | (apply zP (ex:=(Ext.exit 4)) 7 (some [2,5,6,7,8,10,11,16,17,19,28,29,30,38,39,40]);(focus (simp[zH];rfl));(focus (obtain rfl:k=P.length:=(by omega);simp[jG,vK])))
def zDj (pl:List Nd) (W:Nat) (sf:Int) (z:List Et) (m:Int):List (List Et):=jF (rtf pl m W sf) W z
def qQ (pl:List Nd) (node:Int) (W:Nat) (sf ep:Int) (z:List Et) (m:Int):Nat->List Int->List Fr×List Int
 | _,[]=>([],[])
 | s,x::r=>if x=node then(jG m s ep (zDj pl W sf z m)++(qQ pl node W sf ep z m (s+1) r).1,vK 0 (zDj pl W sf z m)++(qQ pl node W sf ep z m (s+1) r).2) else qQ pl node W sf ep z m (s+1) r
theorem zAv {pl:List Nd} {node:Int} {W:Nat} {sf ep:Int} {z:List Et} {m:Int} {s:Nat} {x:Int} {r:List Int} (h:x=node):qQ pl node W sf ep z m s (x::r)=(jG m s ep (zDj pl W sf z m)++(qQ pl node W sf ep z m (s+1) r).1,vK 0 (zDj pl W sf z m)++(qQ pl node W sf ep z m (s+1) r).2):=by rw[qQ,if_pos h]
theorem zAu {pl:List Nd} {node:Int} {W:Nat} {sf ep:Int} {z:List Et} {m:Int} {s:Nat} {x:Int} {r:List Int} (h:¬x=node):qQ pl node W sf ep z m s (x::r)=qQ pl node W sf ep z m (s+1) r:=by rw[qQ,if_neg h]
theorem zNx {pl:List Nd} {W:Nat} {sf:Int} {z:List Et} {m:Int}:(zDj pl W sf z m).length=W:=zRj
theorem zC3 {pl:List Nd} {node:Int} {W:Nat} {sf ep:Int} {z:List Et} {m:Int}:∀{r:List Int} {s:Nat},(qQ pl node W sf ep z m s r).1.length<=W * r.length/\(qQ pl node W sf ep z m s r).2.length<=W * r.length
 | [],s=>by simp[qQ]
 | x::r,s=>by
  have h1:=zAx m s ep (zDj pl W sf z m);have h2:=zE2 0 (zDj pl W sf z m);rw[zNx] at h1 h2;obtain⟨h3,h4⟩:=zC3 (pl:=pl) (node:=node) (W:=W) (sf:=sf) (ep:=ep) (z:=z) (m:=m) (r:=r) (s:=s+1);rw[List.length_cons,Nat.mul_succ];unfold qQ;split
  ·simp only[List.length_append];omega
  ·omega
theorem l_sd (pl:List Nd) (z:List Et) (W i:Nat) (rds rs:List Int) (m node sf ep:Int) (hp:pl.length<2000000) (hk:okN pl) (hc:jU pl m W sf=0) (hz:jY z<2000000) (h1:zEb z (zEk pl m)=false) (hm:0<W) (hw3:W<=3) (hrs:rs.length<=2):∀x:Nat×(List Fr)×(List Int),(x.1<=rs.length/\x.2.1.length+10 * rs.length<500+10 * x.1/\x.2.2.length+10 * rs.length<500+10 * x.1)->∀s,zH 7 (some [2,5,6,7,8,10,11,16,17,19,28,29,30,38,39,40]) s=⟨[(2,.int .i64 node),(5,.lst false 0 (ets false z)),(6,.int .i64 ep),(7,.ptr 7 0 []),(8,.ptr 8 0 []),(10,.ptr 9 0 []),(11,.ptr 10 0 []),(16,.ref 11 0 x.2.1.length),(17,.ref 12 0 x.2.2.length),(19,.ptr 13 0 []),(28,.ref 14 0 rds.length),(29,.int .i64 rds.length),(30,.int .i64 i),(38,.ref 15 0 rs.length),(39,.int .i64 rs.length),(40,.int .i64 x.1)],[(7,⟨true,false,1,[.lst false 0 (nds false 0 pl)],0⟩),(8,⟨true,false,1,[.lst false 0 (ints (jT pl))],0⟩),(9,⟨true,false,1,[.int .i64 W],0⟩),(10,⟨true,false,1,[.int .i64 sf],0⟩),(11,⟨false,false,6,frs true x.2.1,0⟩),(12,⟨false,false,1,ints x.2.2,0⟩),(13,⟨true,false,1,[.int .i64 m],0⟩),(14,⟨false,false,1,ints rds,0⟩),(15,⟨false,false,1,ints rs,0⟩)],16⟩ ->
 oc.loop 46 6 s=some (.exit 2,⟨[(2,.int .i64 node),(5,.lst false 0 (ets false z)),(6,.int .i64 ep),(7,.ptr 7 0 []),(8,.ptr 8 0 []),(10,.ptr 9 0 []),(11,.ptr 10 0 []),(16,.ref 11 0 (x.2.1++(qQ pl node W sf ep z m x.1 (rs.drop x.1)).1).length),(17,.ref 12 0 (x.2.2++(qQ pl node W sf ep z m x.1 (rs.drop x.1)).2).length),(28,.ref 13 0 rds.length),(29,.int .i64 rds.length),(30,.int .i64 i)],[(7,⟨true,false,1,[.lst false 0 (nds false 0 pl)],0⟩),(8,⟨true,false,1,[.lst false 0 (ints (jT pl))],0⟩),(9,⟨true,false,1,[.int .i64 W],0⟩),(10,⟨true,false,1,[.int .i64 sf],0⟩),(11,⟨false,false,6,frs true (x.2.1++(qQ pl node W sf ep z m x.1 (rs.drop x.1)).1),0⟩),(12,⟨false,false,1,ints (x.2.2++(qQ pl node W sf ep z m x.1 (rs.drop x.1)).2),0⟩),(13,⟨false,false,1,ints rds,0⟩)],14⟩):=by
 refine zV (σ:=Nat×(List Fr)×(List Int)) (fun x=>rs.length - x.1) _ (fun x=>⟨[(2,.int .i64 node),(5,.lst false 0 (ets false z)),(6,.int .i64 ep),(7,.ptr 7 0 []),(8,.ptr 8 0 []),(10,.ptr 9 0 []),(11,.ptr 10 0 []),(16,.ref 11 0 x.2.1.length),(17,.ref 12 0 x.2.2.length),(19,.ptr 13 0 []),(28,.ref 14 0 rds.length),(29,.int .i64 rds.length),(30,.int .i64 i),(38,.ref 15 0 rs.length),(39,.int .i64 rs.length),(40,.int .i64 x.1)],[(7,⟨true,false,1,[.lst false 0 (nds false 0 pl)],0⟩),(8,⟨true,false,1,[.lst false 0 (ints (jT pl))],0⟩),(9,⟨true,false,1,[.int .i64 W],0⟩),(10,⟨true,false,1,[.int .i64 sf],0⟩),(11,⟨false,false,6,frs true x.2.1,0⟩),(12,⟨false,false,1,ints x.2.2,0⟩),(13,⟨true,false,1,[.int .i64 m],0⟩),(14,⟨false,false,1,ints rds,0⟩),(15,⟨false,false,1,ints rs,0⟩)],16⟩) _ ?_;rintro⟨j,L,G⟩ hi ih s hs;simp only at hi;refine qD cd46 rfl rfl hs ?_;obtain⟨hi1,hi2,hi3⟩:=hi;have hPl:∀p∈zDj pl W sf z m,p.length<2000000:=fun p hp=>by have h2:=zG4 (zC1 hp);have h3:=kY (l:=p);omega
 have hf:=zAx m j ep (zDj pl W sf z m);have hg:=zE2 0 (zDj pl W sf z m);have hpl:=zNx (pl:=pl) (W:=W) (sf:=sf) (z:=z) (m:=m);rw[hpl] at hf hg;refine wa_ (zB (w_ (b_ (h:=nE (h:=zA (wa_ ?_))))));refine c_ (h1:=?_) (h2:=?_)
 rotate_right 1
 focus
  intro c1;first|exact dn c1|(
   have d1:=c1;try simp at d1
   refine zW ?_)
 rotate_right 1
 focus
  intro c1;first|exact dn c1|(
   have d1:=c1;try simp at d1
   have hw:=zU (i:=j) (by omega);obtain⟨x,hx,e1,g1⟩:=kJ (l:=rs) (i:=j) (by omega);refine zC ?_)
 all_goals first|refine zR ?_|(
  refine zA ?_;refine wa_ (zG (wa_ (zB (wM (h:=w_ (x_ (h:=w_ (l_ (h:=W3 (h:=W3 (h:=nE (h:=zA (wa_ ?_)))))))))))));refine wa_ (zB (wM (h:=wM (h:=w_ (bE (h:=nE (h:=zA ?_)))))));refine c_ (h1:=?_) (h2:=?_)
  rotate_right 1
  focus
   intro c2;first|exact dn c2|(
    have d2:=c2;try simp at d2
    refine zC ?_)
  rotate_right 1
  focus
   intro c2;first|exact dn c2|(
    have d2:=c2;try simp at d2
    refine zW ?_)
  all_goals first|refine zR ?_|(
   refine zA ?_;refine wa_ (zB (w_ (l_ (h:=wM (h:=w_ (mf (h:=w_ (ca (hc:=qE4 pl m sf z W hp hk hc hz hm (by omega) h1) (h:=w_ (le (h:=wM (h:=nE (h:=zA (zG ?_))))))))))))));refine qH (l_sp pl z (zDj pl W sf z m) W i j rds rs m j node sf ep hpl hw3 hPl (0,L,G) ⟨by omega,by simp only;omega,by simp only;omega⟩ _ (by simp[zH,zDj])) ?_;refine zS ?_)
  all_goals first|refine zI ?_|refine zS ?_
  all_goals first
  | (
   refine zA ?_;refine zB (w_ (b_ (h:=wM (h:=nE (h:=?_)))))))
 all_goals first
 | (refine(ih ((j+1,L++jG m j ep (zDj pl W sf z m),G++vK 0 (zDj pl W sf z m))) (⟨by simp only;omega,by simp;omega,by simp;omega⟩) ?_ _ ?_).trans ?_;(focus (first|omega|(simp;done)|(simp;omega)));(focus (simp[zH,hw];done));(focus (rw[e1,zAv (by simpa using d2)];simp)))
 | (refine(ih ((j+1,L,G)) (⟨by simp only;omega,by simp only;omega,by simp only;omega⟩) ?_ _ ?_).trans ?_;(focus (first|omega|(simp;done)|(simp;omega)));(focus (simp[zH,hw];done));(focus (rw[e1,zAu (by simpa using d2)])))
 | (apply zP (ex:=(Ext.exit 2)) 7 (some [2,5,6,7,8,10,11,16,17,28,29,30]);(focus (simp[zH];rfl));(focus (obtain rfl:j=rs.length:=(by omega);simp[qQ])))
def qW (pl:List Nd) (node:Int) (W:Nat) (sf ep:Int) (z:List Et):List Int->List Fr×List Int
 | []=>([],[])
 | m::r=>((qQ pl node W sf ep z m 0 (qB (xH pl m))).1++(qW pl node W sf ep z r).1,(qQ pl node W sf ep z m 0 (qB (xH pl m))).2++(qW pl node W sf ep z r).2)
theorem zAh (d:Nd):(qB d).length<=2:=by unfold qB;split<;>(try split)<;>simp
theorem zIy {pl:List Nd} {node:Int} {W:Nat} {sf ep:Int} {z:List Et} (hW:W<=3):∀{r:List Int},(qW pl node W sf ep z r).1.length<=6 * r.length/\(qW pl node W sf ep z r).2.length<=6 * r.length
 | []=>by simp[qW]
 | m::r=>by
  obtain⟨h1,h2⟩:=zC3 (pl:=pl) (node:=node) (W:=W) (sf:=sf) (ep:=ep) (z:=z) (m:=m) (r:=qB (xH pl m)) (s:=0);have h3:=zAh (xH pl m);have h4:W * (qB (xH pl m)).length<=3 * 2:=Nat.mul_le_mul hW h3;obtain⟨h5,h6⟩:=zIy (pl:=pl) (node:=node) (sf:=sf) (ep:=ep) (z:=z) hW (r:=r);simp only[qW,List.length_append,List.length_cons];omega
theorem l_rd (pl:List Nd) (z:List Et) (W:Nat) (rds:List Int) (node sf ep:Int) (hp:pl.length<2000000) (hk:okN pl) (hn:(yD pl).2=0) (hz:jY z<2000000) (hr:∀m∈rds,zEb z (zEk pl m)=false/\0<=m/\m<pl.length) (hm:0<W) (hw3:W<=3) (hs:0<=sf/\sf<W) (hrl:rds.length<=8):∀x:Nat×(List Fr)×(List Int),(x.1<=rds.length/\x.2.1.length+10 * rds.length<200+10 * x.1/\x.2.2.length+10 * rds.length<200+10 * x.1)->∀s,zH 7 (some [2,5,6,7,8,10,11,16,17,28,29,30]) s=⟨[(2,.int .i64 node),(5,.lst false 0 (ets false z)),(6,.int .i64 ep),(7,.ptr 7 0 []),(8,.ptr 8 0 []),(10,.ptr 9 0 []),(11,.ptr 10 0 []),(16,.ref 11 0 x.2.1.length),(17,.ref 12 0 x.2.2.length),(28,.ref 13 0 rds.length),(29,.int .i64 rds.length),(30,.int .i64 x.1)],[(7,⟨true,false,1,[.lst false 0 (nds false 0 pl)],0⟩),(8,⟨true,false,1,[.lst false 0 (ints (jT pl))],0⟩),(9,⟨true,false,1,[.int .i64 W],0⟩),(10,⟨true,false,1,[.int .i64 sf],0⟩),(11,⟨false,false,6,frs true x.2.1,0⟩),(12,⟨false,false,1,ints x.2.2,0⟩),(13,⟨false,false,1,ints rds,0⟩)],14⟩ ->
 oc.loop 46 3 s=some (.exit 0,⟨[(16,.ref 7 0 (x.2.1++(qW pl node W sf ep z (rds.drop x.1)).1).length),(17,.ref 8 0 (x.2.2++(qW pl node W sf ep z (rds.drop x.1)).2).length)],[(7,⟨false,false,6,frs true (x.2.1++(qW pl node W sf ep z (rds.drop x.1)).1),0⟩),(8,⟨false,false,1,ints (x.2.2++(qW pl node W sf ep z (rds.drop x.1)).2),0⟩)],9⟩):=by
 refine zV (σ:=Nat×(List Fr)×(List Int)) (fun x=>rds.length - x.1) _ (fun x=>⟨[(2,.int .i64 node),(5,.lst false 0 (ets false z)),(6,.int .i64 ep),(7,.ptr 7 0 []),(8,.ptr 8 0 []),(10,.ptr 9 0 []),(11,.ptr 10 0 []),(16,.ref 11 0 x.2.1.length),(17,.ref 12 0 x.2.2.length),(28,.ref 13 0 rds.length),(29,.int .i64 rds.length),(30,.int .i64 x.1)],[(7,⟨true,false,1,[.lst false 0 (nds false 0 pl)],0⟩),(8,⟨true,false,1,[.lst false 0 (ints (jT pl))],0⟩),(9,⟨true,false,1,[.int .i64 W],0⟩),(10,⟨true,false,1,[.int .i64 sf],0⟩),(11,⟨false,false,6,frs true x.2.1,0⟩),(12,⟨false,false,1,ints x.2.2,0⟩),(13,⟨false,false,1,ints rds,0⟩)],14⟩) _ ?_;rintro⟨i,L,G⟩ hi ih s hs;simp only at hi;refine qD cd46 rfl rfl hs ?_;obtain⟨hi1,hi2,hi3⟩:=hi;refine wa_ (zB (w_ (b_ (h:=nE (h:=zA (wa_ ?_))))));refine c_ (h1:=?_) (h2:=?_)
 rotate_right 1
 focus
  intro c1;first|exact dn c1|(
   have d1:=c1;try simp at d1
   refine zW ?_)
 rotate_right 1
 focus
  intro c1;first|exact dn c1|(
   have d1:=c1;try simp at d1
   have hw:=zU (i:=i) (by omega);obtain⟨m,hx,e1,g1⟩:=kJ (l:=rds) (i:=i) (by omega);obtain⟨h1,hm0,hm1⟩:=hr m (List.mem_of_getElem? hx);have hdl:=zBb (t:=false) (s:=0) (show pl[m.toNat]? = some (xH pl m) by unfold xH;rw[List.getElem?_eq_getElem (show m.toNat<pl.length by omega)];rfl);have hcm:jU pl m W sf=0:=(by unfold jU zAm;rw[if_pos hn,if_pos (by simp[inI];omega)];rw[if_pos ⟨by simp[inI];omega,by simp[inI];omega⟩]);have hrs:=zAh (xH pl m);have hsl:=zC3 (pl:=pl) (node:=node) (W:=W) (sf:=sf) (ep:=ep) (z:=z) (m:=m) (r:=qB (xH pl m)) (s:=0);have hw6:W * (qB (xH pl m)).length<=3 * 2:=Nat.mul_le_mul hw3 hrs;refine zC ?_)
 all_goals first|refine zR ?_|(
  refine zA ?_;refine wa_ (zG (wa_ (zB (w_ (x_ (h:=w_ (l_ (h:=w_ (al (h:=w0 (s_ (h:=nE (h:=zA (wa_ (zB ?_)))))))))))))));refine w_ (l_ (h:=w_ (l_ (h:=w_ (x_ (h:=w_ (l_ (h:=w_ (ca (hc:=zNg 0 (xH pl m)) (h:=w_ (le (h:=wM (h:=nE (h:=zA (zG ?_)))))))))))))));refine qH (l_sd pl z W i rds (qB (xH pl m)) m node sf ep hp hk hcm hz h1 hm hw3 hrs (0,L,G) ⟨by omega,by simp only;omega,by simp only;omega⟩ _ (by simp[zH])) ?_;refine zS (zI (zA (zB (w_ (b_ (h:=wM (h:=nE (h:=?_)))))))))
 all_goals first
 | (refine(ih ((i+1,L++(qQ pl node W sf ep z m 0 (qB (xH pl m))).1,G++(qQ pl node W sf ep z m 0 (qB (xH pl m))).2)) (⟨by simp only;omega,by simp;omega,by simp;omega⟩) ?_ _ ?_).trans ?_;(focus (first|omega|(simp;done)|(simp;omega)));(focus (simp[zH,hw];done));(focus (rw[e1];simp[qW])))
 | (apply zP (ex:=(Ext.exit 0)) 7 (some [16,17]);(focus (simp[zH];rfl));(focus (obtain rfl:i=rds.length:=(by omega);simp[qW])))
theorem zAe {a:Int}:∀{l:List Nd} {i:Nat},(qJ a i l).length<=l.length
 | [],i=>by simp[qJ]
 | d::r,i=>by
  have:=zAe (a:=a) (l:=r) (i:=i+1)
  unfold qJ;split<;>simp<;>omega
theorem qEt (pl:List Nd) (node:Int) (W:Nat) (sf:Int) (z:List Et) (ep:Int) (hp:pl.length<2000000) (hk:okN pl) (hn:(yD pl).2=0) (hz:jY z<2000000) (hzw:∀e∈z,(e.row.length:Int)=at0 (jT pl) node) (hm:0<W) (hw3:W<=3) (hs:0<=sf/\sf<W):oc.call 46 [.lst false 0 (nds false 0 pl),.lst false 0 (ints (jT pl)),.int .i64 node,.int .i64 W,.int .i64 sf,.lst false 0 (ets false z),.int .i64 ep]=some (.tup [.lst true 6 (frs true (qW pl node W sf ep z (qJ node 0 pl)).1),.lst true 1 (ints (qW pl node W sf ep z (qJ node 0 pl)).2)],[]):=by
 refine qA rfl cd46 rfl rfl rfl (by simp;rfl) (by simp;rfl) ?_;have hr:∀m∈qJ node 0 pl,zEb z (zEk pl m)=false/\0<=m/\m<pl.length:=fun m hm=>zGq hk hn hm hzw
 have hrl:(qJ node 0 pl).length<=8:=by have h1:=zAe (a:=node) (l:=pl) (i:=0);have h2:=(jA hk hn).2.2.2.2;omega
 refine wa_ (zB (w_ (bx (h:=w_ (bx (h:=w_ (bx (h:=w_ (bx (h:=w_ (aN (h:=w_ (aN (h:=nE (h:=zA (wa_ (zB ?_)))))))))))))))));refine w_ (bs (h:=w_ (bs (h:=W3 (h:=W3 (h:=nE (h:=zA (wa_ (wa_ (zB (w_ (l_ (h:=wM (h:=w_ (ca (hc:=zJ3 pl node hp hk) (h:=?_))))))))))))))));refine w_ (le (h:=wM (h:=nE (h:=zA (zG ?_)))));refine qH (l_rd pl z W (qJ node 0 pl) node sf ep hp hk hn hz hr hm hw3 hs hrl (0,[],[]) ⟨by omega,by simp;omega,by simp;omega⟩ _ (by simp[zH])) ?_;refine zS (zA (wa_ (zB (wM (h:=wM (h:=W3 (h:=W3 (h:=nE (h:=zA (zF ?_))))))))))
 all_goals (refine qX (hr:=(zL rfl (zL rfl zM))) (h:=?_);(focus (simp)))
def zAi (pl:List Nd) (a side ep:Int):Bool:=inI a 0 ((pl.length:Int) - 1)&&(!decide ((xH pl a).op=1)&&(inI side 0 1&&((!decide (side=1)||(decide ((xH pl a).op=4)||decide ((xH pl a).op=6)))&&inI ep 0 1000)))
def zKu (pl:List Nd) (a side:Int):Int:=at0 (jT pl) (if side=1 then(xH pl a).b else(xH pl a).a)
def zRp (pl:List Nd) (a side ep:Int) (z:List Et):Int:=if zAi pl a side ep=true then(if zOr z (zKu pl a side)=0 then(if z.length=0 then 1 else 0) else zOr z (zKu pl a side)) else 3
theorem zWy {pl:List Nd} {a side ep:Int} (h:zAi pl a side ep=true):0<=a/\a<pl.length/\(xH pl a).op≠1/\0<=side/\side<=1/\(side=1->(xH pl a).op=4\/(xH pl a).op=6)/\0<=ep/\ep<=1000:=by
 simp[zAi,inI] at h;omega
theorem qCb (pl:List Nd) (a side ep:Int) (hp:pl.length<2000000) (hk:okN pl) (h0:(yD pl).2=0) (h:zAi pl a side ep=true):oc.call 179 [.lst false 0 (nds false 0 pl),.lst false 0 (ints (jT pl)),.int .i64 a,.int .i64 side]=some (.int .i64 (zKu pl a side),[]):=by
 refine qA rfl cd179 rfl rfl rfl (by simp;rfl) (by simp;rfl) ?_;obtain⟨k1,k2,k3,k4,k5,k6,k7,k8⟩:=zWy h;obtain⟨d,hd,g1⟩:=zK4 k1 k2;rw[xZ hd] at k3 k6;obtain⟨o1,o2,o3⟩:=zUp hk h0 k1 hd;have hl:=(jA hk h0).2.1;refine wa_ (zB (W3 (h:=nE (h:=zA (wa_ (wa_ (zB (wM (h:=w_ (bE (h:=nE (h:=zA ?_))))))))))));refine c_ (h1:=?_) (h2:=?_)
 rotate_right 1
 focus
  intro c1;first|exact dn c1|(
   have d1:=c1;try simp at d1
   have g2:=yC (w:=jT pl) (o2 k3).1 (by have:=o2 k3;omega);have:=o2 k3;refine zC ?_)
 rotate_right 1
 focus
  intro c1;first|exact dn c1|(
   have d1:=c1;try simp at d1
   have g2:=yC (w:=jT pl) (o3 (k6 d1)).1 (by have:=o3 (k6 d1);omega);have:=o3 (k6 d1);refine wa_ (zB (wM (h:=wM (h:=wM (h:=w_ (x_ (h:=w_ (f_ (h:=w_ (l_ (h:=w_ (x_ (h:=w_ (l_ (h:=W3 (h:=nE (h:=?_)))))))))))))))));refine zA (zF ?_))
 all_goals first|refine zK ?_|(
  refine zA ?_;refine wa_ (zB (wM (h:=wM (h:=wM (h:=w_ (x_ (h:=w_ (f_ (h:=w_ (l_ (h:=w_ (x_ (h:=w_ (l_ (h:=W3 (h:=nE (h:=?_)))))))))))))))));refine zA (zF ?_))
 all_goals (refine qX (hr:=(zL rfl zM)) (h:=?_);(focus (simp only[zKu,xZ hd];simp[d1])))
theorem zYj (d:Nd) (side:Int):oc.call 109 [d.v false 0,.int .i64 side]=some (.int .i64 (if side=1 then d.b else d.a),[]):=by
 refine qA rfl cd109 rfl rfl rfl (by simp;rfl) (by simp;rfl) ?_;refine wa_ (zB (w_ (bx (h:=W3 (h:=nE (h:=zA (wa_ (wa_ (zB (wM (h:=w_ (bE (h:=nE (h:=?_))))))))))))));refine zA ?_;refine c_ (h1:=?_) (h2:=?_)
 rotate_right 1
 focus
  intro c1;refine zC ?_
 rotate_right 1
 focus
  intro c1;refine wa_ (zB (w_ (f_ (h:=w_ (l_ (h:=W3 (h:=nE (h:=zA (zF ?_)))))))))
 all_goals first|refine zK ?_|(
  refine zA ?_;refine wa_ (zB (w_ (f_ (h:=w_ (l_ (h:=W3 (h:=nE (h:=zA (zF ?_))))))))))
 all_goals (refine qX (hr:=(zL rfl zM)) (h:=?_);(focus (first|(simp_all;done)|(simp_all<;>omega)|(simp_all<;>split<;>simp_all<;>omega))))
theorem qE5 (pl:List Nd) (a side ep:Int) (z:List Et) (hp:pl.length<2000000) (hk:okN pl) (h0:(yD pl).2=0) (hz:jY z<2000000):oc.call 116 [.lst false 0 (nds false 0 pl),.lst false 0 (ints (jT pl)),.int .i64 a,.int .i64 side,.int .i64 ep,.lst false 0 (ets false z)]=some (.int .i64 (zRp pl a side ep z),[]):=by
 refine qA rfl cd116 rfl rfl rfl (by simp;rfl) (by simp;rfl) ?_;have hw:IntKind.i64.wrap ((pl.length:Int) - 1)=pl.length - 1:=qL (by omega) (by omega);have hzl:=kY (l:=z);refine wa_ (zB (W3 (h:=nE (h:=zA (wa_ (wa_ (zB (wM (h:=wM (h:=w_ (ca (hc:=zJj _ _ (by simp;omega)) (h:=w_ (b_ (h:=?_))))))))))))));refine w_ (ca (hc:=zFp _ _ _) (h:=w_ (u_ (h:=wM (h:=?_)))));refine gw_ (h1:=?_) (h2:=?_)
 rotate_right 1
 focus
  intro c1;first|exact dn c1|(
   have d1:=c1;try simp at d1
   refine go_ (h:=go_ (h:=go_ (h:=go_ (h:=go_ (h:=go_ (h:=?_)))))))
 rotate_right 1
 focus
  intro c1;first|exact dn c1|(
   have d1:=c1;try simp at d1
   have hin:0<=a/\a<pl.length:=(by simp[inI,hw] at d1;omega);obtain⟨d,hd,g1⟩:=zK4 hin.1 hin.2;refine g_ (h:=wM (h:=g_ (h:=wM (h:=g_ (h:=w_ (x_ (h:=g_ (h:=w_ (f_ (h:=g_ (h:=w_ (l_ (h:=g_ (h:=w_ (bE (h:=?_)))))))))))))))))
 all_goals
  refine w_ (pk (h:=wM (h:=?_)));refine gw_ (h1:=?_) (h2:=?_)
  rotate_right 1
  focus
   intro c2;first|exact dn c2|(
    have d2:=c2;try simp at d2
    refine go_ (h:=go_ (h:=go_ (h:=?_))))
  rotate_right 1
  focus
   intro c2;first|exact dn c2|(
    have d2:=c2;try simp at d2
    refine g_ (h:=wM (h:=g_ (h:=w_ (ca (hc:=zFp _ _ _) (h:=g_ (h:=w_ (u_ (h:=?_)))))))))
  all_goals
   refine w_ (pk (h:=wM (h:=?_)));refine gw_ (h1:=?_) (h2:=?_)
   rotate_right 1
   focus
    intro c3;first|exact dn c3|(
     have d3:=c3;try simp at d3
     refine go_ (h:=go_ (h:=go_ (h:=?_))))
   rotate_right 1
   focus
    intro c3;first|exact dn c3|(
     have d3:=c3;try simp at d3
     refine g_ (h:=wM (h:=g_ (h:=w_ (bE (h:=g_ (h:=wM (h:=?_))))))))
   all_goals
    first
    | (
     skip
     refine goN (h:=goN (h:=goN (h:=goN (h:=goN (h:=goN (h:=goN (h:=?_))))))))
    | (
     refine gw_ (h1:=?_) (h2:=?_)
     rotate_right 1
     focus
      intro c4;first|exact dn c4|(
       have d4:=c4;try simp at d4
       refine go_ (h:=go_ (h:=go_ (h:=go_ (h:=go_ (h:=go_ (h:=go_ (h:=?_))))))))
     rotate_right 1
     focus
      intro c4;first|exact dn c4|(
       have d4:=c4;try simp at d4
       refine g_ (h:=wM (h:=g_ (h:=wM (h:=g_ (h:=w_ (x_ (h:=g_ (h:=w_ (f_ (h:=g_ (h:=w_ (l_ (h:=g_ (h:=w_ (ca (hc:=zZp _) (h:=g_ (h:=w_ (u_ (h:=?_)))))))))))))))))))))
    all_goals
     first
     | (
      skip
      refine g_ (h:=w_ (pk (h:=?_))))
     | (
      skip
      refine go_ (h:=?_))
     all_goals
      refine w_ (pk (h:=wM (h:=?_)));refine gw_ (h1:=?_) (h2:=?_)
      rotate_right 1
      focus
       intro c5;first|exact dn c5|(
        have d5:=c5;try simp at d5
        refine go_ (h:=go_ (h:=go_ (h:=?_))))
      rotate_right 1
      focus
       intro c5;first|exact dn c5|(
        have d5:=c5;try simp at d5
        refine g_ (h:=wM (h:=g_ (h:=w_ (ca (hc:=zFp _ _ _) (h:=g_ (h:=w_ (u_ (h:=?_)))))))))
      all_goals
       refine w_ (pk (h:=nE (h:=?_)))
 all_goals first
 | (
  refine zA ?_;refine c_ (h1:=?_) (h2:=?_)
  rotate_right 1
  focus
   intro c6;first|exact dn c6|(
    have d6:=c6;try simp at d6
    have hok:zAi pl a side ep=true:=(by clear hk hz hzl;simp[zAi,xZ hd,inI,hw] at *;grind);refine zC ?_)
  rotate_right 1
  focus
   intro c6;first|exact dn c6|(
    have d6:=c6;try simp at d6
    have hno:zAi pl a side ep=false:=(by clear hk hz hzl;first|(simp[zAi,inI,hw] at *;grind)|(simp[zAi,xZ hd,inI,hw] at *;grind));refine wa_ (zB (W3 (h:=nE (h:=zA (zF ?_)))))))
 all_goals first|refine zK ?_|(
  refine zA ?_;refine wa_ (wa_ (zB (wM (h:=wM (h:=wM (h:=wM (h:=wM (h:=w_ (ca (hc:=qCb pl a side ep hp hk h0 hok) (h:=w_ (ca (hc:=qB0 z _ hz) (h:=W3 (h:=nE (h:=?_))))))))))))));refine zA (wa_ (zB (wM (h:=w_ (bE (h:=nE (h:=zA ?_)))))));refine c_ (h1:=?_) (h2:=?_)
  rotate_right 1
  focus
   intro c7;first|exact dn c7|(
    have d7:=c7;try simp at d7
    refine zC ?_)
  rotate_right 1
  focus
   intro c7;first|exact dn c7|(
    have d7:=c7;try simp at d7
    refine wa_ (zB (wM (h:=W3 (h:=nE (h:=zA (zF ?_)))))))
  all_goals first|refine zK ?_|(
   refine zA ?_;refine wa_ (wa_ (zB (wM (h:=w_ (le (h:=w_ (bE (h:=nE (h:=zA ?_)))))))));refine c_ (h1:=?_) (h2:=?_)
   rotate_right 1
   focus
    intro c8;first|exact dn c8|(
     have d8:=c8;try simp at d8
     refine zC ?_)
   rotate_right 1
   focus
    intro c8;first|exact dn c8|(
     have d8:=c8;try simp at d8
     refine wa_ (zB (W3 (h:=nE (h:=zA (zF ?_))))))
   all_goals first|refine zK ?_|(
    refine zA ?_;refine wa_ (zB (W3 (h:=nE (h:=zA (zF ?_))))))))
 all_goals (refine qX (hr:=(zL rfl zM)) (h:=?_);(focus (first|(simp[zRp,hno];done)|(clear hk;simp[zRp,hok,d7];done)|(clear hk;simp[zRp,hok,d7];cases z<;>simp at c8 ⊢ <;> omega))))
end Go.Proofs.YtbcgenkegnmkhaaGreat.Ev
