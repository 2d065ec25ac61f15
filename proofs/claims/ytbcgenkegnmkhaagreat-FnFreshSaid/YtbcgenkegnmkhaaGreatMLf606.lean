/- Part 6 of the proof that the law named in the last part returns true at every argument: an evaluator of the program, shown sound, and its runs. No further conditions. -/
import Derived.Test.YtbcgenkegnmkhaaGreatMLf605
namespace Go.Proofs.YtbcgenkegnmkhaaGreat.Ev
open Go
set_option maxRecDepth 100000
set_option linter.unusedSimpArgs false
set_option linter.unusedVariables false
set_option maxHeartbeats 2000000
abbrev hd0:Hd:=⟨[],[],[],0⟩
theorem qK8 {pl:List Nd} {k:Int}:zHx pl k hd0=0:=by
 unfold zHx
 split
 ·simp
 ·have h1:qGq pl (zLo pl k) hd0=0:=by simp[qGq,zQs,show qHa []=0 from rfl]
  rw[if_pos h1]
  simp[zR5,inI]
theorem zOh {pl:List Nd}:∀(n k:Nat),zR6 pl k (List.replicate n hd0)=0
 | 0,_=>rfl
 | n+1,k=>by rw[List.replicate_succ,zYn qK8,zOh n (k+1)]
theorem qKz {pl:List Nd} {L:List Ct} (h:zPd pl L=0):wkC pl (wk0 pl L)=0:=by
 unfold wkC wk0
 simp[zNk,h,zOh,inI,zQ8]
theorem zOf {pl:List Nd} {W:Nat} (h1:1≤W) (h3:W≤3) (hp:pl.length≤8):zPd pl ((qK 1 0 pl).map (qG W))=0:=by
 have hl:=jZ (op:=1) (l:=pl) (i:=0)
 unfold zPd
 rw[if_neg (by simp;omega)]
 refine zUz (fun x hx=>?_) (zJu zCf) (fun q hq=>by cases hq)
 obtain⟨n,hn,rfl⟩:=List.mem_map.1 hx
 have:=zAz hn
 have e1:qE6 pl (2 * n+1)=true:=by simp[qE6,inI];omega
 have e3:inI (W:Int) (-1000000000000) 1000000000000=true:=by simp[inI];omega
 refine⟨?_,by simp only[qG];omega⟩
 simp only[yY,qG,e1,e3]
 rfl
theorem zOl {pl:List Nd} {w:Wk} (h:wkC pl w=0):∀n,zR7 pl (List.replicate n w)=0
 | 0=>rfl
 | n+1=>by rw[List.replicate_succ,zZh h,zOl h n]
theorem zEl {α:Type}:∀n,(List.replicate n ([]:List α)).flatten=[]
 | 0=>rfl
 | n+1=>by rw[List.replicate_succ,List.flatten_cons,zEl n];rfl
theorem zYd {pl:List Nd} {L:List Ct} {W:Nat} (h1:1≤W) (h3:W≤3) (hr:(jS pl).2=0) (hL:zPd pl L=0):clN (xH pl L W)=0:=by
 unfold clN xH clC
 simp only[hr,if_true]
 rw[if_pos ⟨by simp;omega,by simp,by simp[zPc]⟩,if_pos (zOl (qKz hL) W),zEl]
 rfl
theorem zZt {F:Hd→List Int} (hF:F hd0=[]) {pl:List Nd} {L:List Ct}:∀(l:List Nd) (i:Nat),zNz F (wk0 pl L) i l=(qK 1 i l).map (qG 1)
 | [],_=>rfl
 | d::r,i=>by
  have hn:((wk0 pl L).nodes[i]?).elim [] F=[]:=by
   unfold wk0
   simp only[List.getElem?_replicate]
   split
   ·exact hF
   ·rfl
  unfold zNz qK
  rw[zZt hF r (i+1),hn]
  by_cases hd:d.op=1
  ·rw[if_pos ⟨hd,by simp[wk0]⟩,if_pos hd];rfl
  ·rw[if_neg (fun h=>hd h.1),if_neg hd];simp
theorem zI1 {F:Hd→List Int} (hF:F hd0=[]) {pl:List Nd} {L:List Ct} {W:Nat}:zEf F (xH pl L W)=(List.replicate W ((qK 1 0 pl).map (qG 1))).flatten:=by
 unfold zEf xH
 simp only[zEl,List.map_replicate,qDr,zZt hF]
 simp[zR8,wk0]
theorem zSp {F:Hd→List Int} (hF:F hd0=[]) {pl:List Nd} {L:List Ct} {W:Nat} (h1:1≤W) (h3:W≤3) (hp:pl.length≤8):trS F (xH pl L W)=((qK 1 0 pl).map (qG W),0):=by
 have hl:=jZ (op:=1) (l:=pl) (i:=0)
 unfold trS
 rw[zI1 hF,zTo zCf W h1 h3]
 have hu:((qK 1 0 pl).map (qG W)).filter zD7=(qK 1 0 pl).map (qG W):=by
  rw[List.filter_eq_self]
  intro x hx
  obtain⟨n,_,rfl⟩:=List.mem_map.1 hx
  simp[zD7,qG];omega
 have hb:((qK 1 0 pl).map (qG W)).any zV3=false:=by
  rw[List.any_eq_false]
  intro x hx
  obtain⟨n,_,rfl⟩:=List.mem_map.1 hx
  have e3:inI (W:Int) (-1000000000000) 1000000000000=true:=by simp[inI];omega
  simp only[zV3,okW,qG,e3];decide
 unfold qA3
 rw[hb,if_neg (by simp),hu,if_neg (by simp;omega)]
theorem zYz {F:Hd→List Int} (hF:F hd0=[]) {pl:List Nd} {L:List Ct} {W:Nat} (h1:1≤W) (h3:W≤3) (hp:pl.length≤8):TrOK F (xH pl L W):=by
 have hl:=jZ (op:=1) (l:=pl) (i:=0)
 have hn:∀x∈zEf F (xH pl L W),∃n,x=qG 1 n:=by
  rw[zI1 hF]
  intro x hx
  obtain⟨l,hl,hx⟩:=List.mem_flatten.1 hx
  rw[List.mem_replicate] at hl
  rw[hl.2] at hx
  obtain⟨n,_,rfl⟩:=List.mem_map.1 hx
  exact⟨n,rfl⟩
 refine⟨hp,by simp[xH];omega,by(unfold xH;rw[List.length_replicate];exact Nat.mul_pos (by omega) (by omega)),?_,?_,?_,?_⟩
 ·intro w hw
  have:w=wk0 pl L:=(List.mem_replicate.1 hw).2
  subst this;simp[wk0,xH]
 ·intro w hw h hh
  have:w=wk0 pl L:=(List.mem_replicate.1 hw).2
  subst this
  have:h=hd0:=(List.mem_replicate.1 hh).2
  subst this
  rw[hF]
  exact⟨e_ep0 [] [] 0,by simp⟩
 ·rw[zI1 hF]
  have:∀n:Nat,(List.replicate n ((qK 1 0 pl).map (qG 1))).flatten.length≤n * 8:=by
   intro n
   induction n with
   | zero=>simp
   | succ n ih=>rw[List.replicate_succ,List.flatten_cons,List.length_append,List.length_map,Nat.succ_mul];omega
  have:=this W
  omega
 ·intro x hx
  obtain⟨n,rfl⟩:=hn x hx
  show IntKind.i64.wrap (0+1)=1
  decide
theorem zYu {pl:List Nd} {L:List Ct} {W:Nat} (h1:1≤W) (h3:W≤3) (hp:pl.length≤8) (hL:L.length≤8):zA8 (xH pl L W).workers<2000000:=by
 have hh:zIq (List.replicate pl.length ⟨[],[],[],0⟩)≤8+8 * 100:=by
  unfold zIq
  have:∀n,wS zXq (List.replicate n hd0)≤n * 100:=by
   intro n
   have:=zY2 (f:=zXq) (c:=100) (l:=List.replicate n hd0) (fun x hx=>by rw[(List.mem_replicate.1 hx).2];decide)
   simpa using this
  have:=this pl.length
  change wS zXq (List.replicate pl.length ⟨[],[],[],0⟩)≤_ at this
  rw[List.length_replicate]
  have:pl.length * 100≤8 * 100:=Nat.mul_le_mul_right _ hp
  omega
 have hw:zQx (wk0 pl L)≤100000:=by
  unfold zQx wk0
  have e1:zEe []=0:=rfl
  have e2:zJn []=0:=rfl
  simp only[e1,e2]
  omega
 have:=zY2 (f:=zQx) (c:=100000) (l:=(xH pl L W).workers) (fun x hx=>by rw[(List.mem_replicate.1 hx).2];exact hw)
 have hl:(xH pl L W).workers.length=W:=by simp[xH]
 rw[hl] at this
 have:W * 100000≤3 * 100000:=Nat.mul_le_mul_right _ h3
 unfold zA8
 omega
theorem zZv {pl:List Nd} {L:List Ct} {W:Nat} (h3:W≤3):vC (xH pl L W).links<2000000:=by
 have:=zY2 (f:=zEe) (c:=1) (l:=(xH pl L W).links) (fun x hx=>by rw[(List.mem_replicate.1 hx).2];decide)
 have hl:(xH pl L W).links.length=W * W:=by simp[xH]
 have hq:=qH4 h3
 unfold vC
 omega
theorem zTt (o:Option Int):zMs o o=false:=by cases o<;>simp[zMs]
theorem zLi {pl:List Nd} {L:List Ct} {W:Nat}:∀(n i:Nat),zLw (xH pl L W) L n i=false
 | 0,_=>rfl
 | n+1,i=>by
  unfold zLw
  rw[zLi n (i+1),Bool.or_false,List.any_eq_false]
  intro w hw
  have:w=wk0 pl L:=(List.mem_replicate.1 hw).2
  subst this
  show ¬zMs (frN pl L i) (frN pl L i)=true
  rw[zTt];simp
def Fz:Hd→List Int:=fun _=>[]
theorem zSx (pl:List Nd) (W:Nat) (h1:1≤W) (h3:W≤3) (hk:okN pl) (hr:(jS pl).2=0):oc.call 22 [((xH pl ((qK 1 0 pl).map (qG W)) W).v false)]=some (.bool true,[]):=by
 refine qD rfl cd22 rfl rfl rfl (by simp;rfl) (by simp;rfl) ?_
 have hp:=(zIo hr).2
 obtain⟨L,hL⟩:∃L,(qK 1 0 pl).map (qG W)=L:=⟨_,rfl⟩
 have hL0:zPd pl L=0:=by rw[←hL];exact zOf h1 h3 hp
 have hLl:L.length≤8:=by rw[←hL];have:=jZ (op:=1) (l:=pl) (i:=0);simp;omega
 have hcl:=zYd (pl:=pl) (L:=L) h1 h3 hr hL0
 obtain⟨p8,w3,l0,nl,hF,hlen,hone⟩:=zYz (F:=Fz) rfl (pl:=pl) (L:=L) h1 h3 hp
 have hx:zA8 (xH pl L W).workers<2000000:=zYu h1 h3 hp hLl
 have hy:vC (xH pl L W).links<2000000:=zZv h3
 have hl2:=zB2 (l:=(xH pl L W).links)
 have hl3:=zNa (l:=(xH pl L W).links)
 have htc:oc.call 68 [.vptr ((xH pl L W).v false)]=some (.tup [.lst true 3 (cts (trS Fz (xH pl L W)).1),.int .i64 (trS Fz (xH pl L W)).2],[]):=e_tc (xH pl L W) Fz p8 w3 (by omega) (by omega) l0 hx nl hF hlen hone
 rw[zSp rfl h1 h3 hp,hL] at htc
 have hcI:=zX6 (xH pl L W) (by show pl.length<2000000;omega) hk hx hy
 rw[hcl] at hcI
 have hcr:=zPy hL0
 have h7:=l_sf7 (xH pl L W) L p8 hk (zRo hr) w3 (fun w hw=>by have:w=wk0 pl L:=(List.mem_replicate.1 hw).2;subst this;exact⟨by show L.length<2000000;omega,hcr⟩) (by omega) hcr 0 (by omega)
 rw[zLi] at h7
 rw[hL]
 refine wa_ (zB (w_ (bx (h:=w_ (a_ (h:=zC (e_ (h:=zA (wa_ (wa_ (zB (w_ (l_ (h:=w_ (ca (hc:=hcI) (h:=w_ (bE (h:=?_))))))))))))))))))
 refine zC (e_ (h:=zA (?_)))
 refine c_ (h1:=?_) (h2:=?_)
 rotate_right 1
 focus
  intro c1
  first
  | exact dn c1
  | (
   have d1:=c1;try simp at d1
   refine zD (?_)
   )
 rotate_right 1
 focus
  intro c1
  first
  | exact dn c1
  | (
   have d1:=c1;try simp at d1
   refine wa_ (zB (w_ (a_ (h:=zC (e_ (h:=zA (zH (?_))))))))
   )
 all_goals first
 | refine zL ?_
 | (
  refine zA ?_
  refine wa_ (zB (w_ (ca (hc:=htc) (h:=w_ (m_ (h:=w_ (ex (h:=w_ (ex (h:=w_ (a_ (h:=w_ (a_ (h:=zC (e_ (h:=zA (wa_ (wa_ (?_)))))))))))))))))))
  refine zB (w_ (m_ (h:=w_ (bE (h:=zC (e_ (h:=zA (?_))))))))
  refine c_ (h1:=?_) (h2:=?_)
  rotate_right 1
  focus
   intro c2
   first
   | exact dn c2
   | (
    have d2:=c2;try simp at d2
    refine zD (?_)
    )
  rotate_right 1
  focus
   intro c2
   first
   | exact dn c2
   | (
    have d2:=c2;try simp at d2
    refine wa_ (zB (w_ (a_ (h:=zC (e_ (h:=zA (zH (?_))))))))
    )
  all_goals first
  | refine zL ?_
  | (
   refine zA ?_
   refine wa_ (wa_ (zB (w_ (f_ (h:=w_ (l_ (h:=w_ (ca (hc:=zF5 _ _ (by simp;omega)) (h:=w_ (?_))))))))))
   refine b_ (hv:=zL3 (c:=2 * (xH pl L W).plan.length) (by simp) (by omega)) (h:=?_)
   refine w_ (m_ (h:=zC (e_ (h:=zA (zG (?_))))))
   refine qR (h7 _ (by simp[zI])) ?_ ?_
   rotate_right 1
   focus
    intro c3
    first
    | exact dn c3
    | (
     have d3:=c3;try simp at d3
     skip
     )
   rotate_right 1
   focus
    intro c3
    first
    | exact dn c3
    | (
     have d3:=c3;try simp at d3
     skip
     )
   all_goals first|refine zY ?_|refine zT ?_
   all_goals first
   | refine zL ?_
   | (
    refine zA ?_
    refine wa_ (zB (w_ (a_ (h:=zC (e_ (h:=zA (zH (?_))))))))
    )
   )
  )
 all_goals (refine qZ (hr:=(zR rfl zO)) (h:=?_);(focus (first|(simp_all;done)|(simp_all<;>omega)|(simp_all<;>split<;>simp_all<;>omega))))
def bys (c:List Int):List V:=c.map fun x=>V.int .u8 x
@[simp] theorem bys_len (c:List Int):(bys c).length=c.length:=by simp[bys]
@[simp] theorem qE9 (c:List Int):V.shareL (bys c)=bys c:=by
 induction c with
 | nil=>rfl
 | cons x c ih=>simp only[bys,List.map_cons,V.shareL,V.share] at ih ⊢;rw[ih]
def kW (c:List Int) (a:Nat):V:=.agg [.lst false 0 (bys c),.int .i64 a]
@[simp] theorem qF1 (c:List Int) (a:Nat):(kW c a).cells=2:=rfl
@[simp] theorem zLn (c:List Int) (a:Nat):V.mention (kW c a)=[]:=rfl
@[simp] theorem zWv (c:List Int) (a:Nat) (ρ:Nat→Option Nat) (vr:Nat→Nat):V.ren ρ vr (kW c a)=kW c a:=rfl
@[simp] theorem srcV_fzI (c:List Int) (a:Nat) (s:St):V.fzI (kW c a) s=some (kW c a,s):=by simp[kW,V.fzI,V.fzIL,V.fz,mp]
def okS (c:List Int):Prop:=c.length≤1048576∧∀x∈c,0≤x∧x<256
section
variable {call : Call} {id base : Nat} {e : List (Nat × V)} {o : List (Nat × Ob)} {n : Nat} {t : TypeId} {K : V→List (Nat × Ob)→Prop}
theorem cP {args:Array Operand} {ts:Array TypeId} {fo:Operand} {f:FuncId} {q a a' id':Nat} {c:List Int} {vs asv:List V} {ob:Ob} {o1 o2:List (Nat×Ob)} {rv v:V} {sr:Option (List V)} (hx:jX e args.toList=some (.ptr q 0 []::vs):=by exact rfl) (hf:opV e fo=some (.clo f []):=by exact rfl) (hB:cf.inB f=false:=by(rw[zCp];rfl)) (hmd:cf.md f=[.io]:=by(rw[xW];rfl)) (ho:zN o q=some ob:=by exact rfl) (hb:ob.bx=true:=by rfl) (hfx:ob.fx=false:=by rfl) (hxs:ob.xs=[kW c a]:=by rfl)
  (hd:jU o q=o1:=by(simp;rfl)) (hlv:∀s:St,jJ [] vs s=some (vs,s,[]):=by intro s;rfl) (hs:jC ⟨[],o1,n⟩ [] vs=sr:=by(simp;rfl)) (hsr:sr=some asv:=by first|rfl|(simp[*]<;>fail)) (hc:call f (.iop (kW c a)::asv)=some (rv,[kW c a'])) (hid:id=id':=by((try simp);rfl))
  (hw:((xB [.io] (.ptr q 0 []::vs)).isEmpty=true∨rv.tidy=true∧V.tidyL ([kW c a']:List V)=true)∧(rv.thaw id').2.2≤id'+32:=by(simp[xB,V.mention,V.mentionL])) (hv:(rv.thaw id').1=v:=by(simp;rfl)) (ho2:(rv.thaw id').2.1++((q,⟨true,ob.fx,ob.sz,[kW c a'],ob.ver+1⟩)::o1)=o2:=by(simp;rfl))
  (h:K v o2):opK call cf id base e o n t (.call ⟨.value fo,args,ts⟩) K:=by
 subst hd hid hv ho2
 rw[←hs] at hsr
 refine zP1 hx hf hB rfl (bs:=.iop (kW c a)::vs) (s1:=⟨e,jU o q,n⟩) (lent:=[(q,ob)]) (asv:=.iop (kW c a)::asv) (ro:=[kW c a']) (s2:=⟨e,(q,⟨true,ob.fx,ob.sz,[kW c a'],ob.ver+1⟩)::jU o q,n⟩) ?_ ?_ hc rfl ?_ ?_ rfl h
 ·rw[hmd,List.append_nil]
  simp only[jJ,qT,List.headD_cons,List.tail_cons,ho,hxs,hb,hfx,if_true,and_self,List.isEmpty_nil,hlv,List.append_nil,kW,V.fzI,V.fzIL,V.fz,zK]
 ·rw[hmd]
  have:=zIy e ⟨[],jU o q,n⟩ [] vs
  rw[hsr] at this
  simp only[jC,List.headD_cons,List.tail_cons,mp]
  rw[show jC ⟨e,jU o q,n⟩ [] vs=some asv from this]
  rfl
 ·rw[hmd,List.append_nil]
  exact hw
 ·simp only[xX,yC,hb,hxs,if_true,yH,kW]
  rfl
theorem cPT {args:Array Operand} {ts:Array TypeId} {fo:Operand} {f:FuncId} {q q2 m a a':Nat} {c:List Int} {ob ob2:Ob} {o1:List (Nat×Ob)} {k:IntKind} {r:Int} (hx:jX e args.toList=some [.ptr q 0 [],.ref q2 0 m]:=by exact rfl) (hf:opV e fo=some (.clo f []):=by exact rfl) (hB:cf.inB f=false:=by(rw[zCp];rfl)) (hmd:cf.md f=[.io,.take]:=by(rw[xW];rfl)) (ho:zN o q=some ob:=by exact rfl) (hb:ob.bx=true:=by rfl) (hfx:ob.fx=false:=by rfl) (hxs:ob.xs=[kW c a]:=by rfl)
  (h2:zN (jU o q) q2=some ob2:=by(simp;rfl)) (hb2:ob2.bx=false:=by rfl) (hf2:ob2.fx=false:=by rfl) (hm:m=ob2.xs.length:=by first|rfl|simp) (hd:jU (jU o q) q2=o1:=by(simp;rfl)) (hc:call f [.iop (kW c a),.lst true ob2.sz ob2.xs]=some (.int k r,[kW c a']))
  (h:K (.int k r) ((q,⟨true,ob.fx,ob.sz,[kW c a'],ob.ver+1⟩)::o1)):opK call cf id base e o n t (.call ⟨.value fo,args,ts⟩) K:=by
 subst hd hm
 have hg:St.give ⟨e,jU o q,n⟩ q2 0 ob2.xs.length=some (ob2.sz,ob2.xs,⟨e,jU (jU o q) q2,n⟩):=by
  simp only[St.give,h2,hb2,hf2,Nat.zero_add,Nat.le_refl,and_self,if_true,List.drop_zero,List.take_length]
 have hz:V.fz (.ref q2 0 ob2.xs.length) ⟨e,jU o q,n⟩=some (.lst true ob2.sz ob2.xs,⟨e,jU (jU o q) q2,n⟩):=by
  simp only[V.fz,hg,zK]
 refine zP1 hx hf hB rfl (bs:=[.iop (kW c a),.lst true ob2.sz ob2.xs]) (s1:=⟨e,jU (jU o q) q2,n⟩) (lent:=[(q,ob)]) (asv:=[.iop (kW c a),.lst true ob2.sz ob2.xs]) (ro:=[kW c a']) (s2:=⟨e,(q,⟨true,ob.fx,ob.sz,[kW c a'],ob.ver+1⟩)::jU (jU o q) q2,n⟩) ?_ ?_ hc rfl ?_ ?_ rfl h
 ·rw[hmd,List.append_nil]
  simp only[jJ,qT,List.headD_cons,List.tail_cons,ho,hxs,hb,hfx,if_true,and_self,List.isEmpty_nil,List.append_nil,kW,V.fzI,V.fzIL,V.fz,hg,zK,V.argOk]
 ·rw[hmd]
  simp only[jC,List.headD_cons,List.tail_cons,zK]
 ·rw[hmd,List.append_nil]
  exact⟨.inl rfl,by simp[V.thaw]⟩
 ·simp only[xX,yC,hb,hxs,if_true,yH,kW]
  rfl
end
def zB8 (c:List Int) (a:Nat) (n:Int):Int :=
 if n<1 then 0 else if c.length=0 then((a:Int) * 7) % n else
  let v:=c.getD (a % c.length) 0+(a / c.length:Nat) * 37
  (if 200<n then v * 251+c.getD ((a+1) % c.length) 0 * 13+a else v) % n
theorem vG {c:List Int} {a:Nat} {n:Int} (h:1≤n):0≤zB8 c a n∧zB8 c a n<n:=by
 unfold zB8
 rw[if_neg (by omega)]
 split
 ·exact⟨Int.emod_nonneg _ (by omega),Int.emod_lt_of_pos _ (by omega)⟩
 ·exact⟨Int.emod_nonneg _ (by omega),Int.emod_lt_of_pos _ (by omega)⟩
theorem zRf {c:List Int} (h:okS c) {i:Nat}:0≤c.getD i 0∧c.getD i 0<256:=by
 rcases Nat.lt_or_ge i c.length with hi|hi
 ·have:=h.2 (c[i]) (List.getElem_mem hi)
  simpa [List.getD,hi] using this
 ·have:c.getD i 0=0:=by simp[List.getD,List.getElem?_eq_none hi]
  omega
theorem zS4 {c:List Int} {i:Nat} (h:i<c.length):(bys c)[i]? = some (.int .u8 (c.getD i 0)):=by
 simp[bys,h,List.getD]
theorem zZm {a b:Nat} {x y:Int} (h1:x=a) (h2:y=b) (hb:0<b):zE6 .rem .i64 x y=some (.int .i64 ((a % b:Nat):Int)):=by
 subst h1 h2
 simp only[zE6,if_neg (show ¬(b:Int)=0 by omega)]
 rfl
theorem qG2 {a b q:Nat} {x y:Int} (h1:x=a) (h2:y=b) (hb:0<b) (hq:a / b=q) (ha:q<4000000000000000000):zE6 .quo .i64 x y=some (.int .i64 (q:Int)):=by
 subst h1 h2
 simp only[zE6,if_neg (show ¬(b:Int)=0 by omega)]
 rw[show(a:Int).tdiv b=((a / b:Nat):Int) from rfl,hq,qH (by omega) (by omega)]
theorem zUu {x n:Int} (h0:0≤x) (hn:0<n):zE6 .rem .i64 x n=some (.int .i64 (x % n)):=by
 simp only[zE6,if_neg (show ¬n=0 by omega)]
 rw[Int.tmod_eq_emod_of_nonneg h0]
theorem zBo {a b c:Int} (h:a+b=c) (h1:-4000000000000000000≤c) (h2:c<4000000000000000000):zE6 .add .i64 a b=some (.int .i64 c):=by
 simp only[zE6];rw[h,qH (by omega) (by omega)]
theorem zIm {a b c:Int} (h:a * b=c) (h1:-4000000000000000000≤c) (h2:c<4000000000000000000):zE6 .mul .i64 a b=some (.int .i64 c):=by
 simp only[zE6];rw[h,qH (by omega) (by omega)]
theorem jF (c:List Int) (a:Nat) (n:Int) (hc:okS c) (ha:a<1000000000) (hn:n<4000000000000000000):oc.call 37 [.iop (kW c a),.int .i64 n]=some (.int .i64 (zB8 c a n),[kW c (a+1)]):=by
 refine qD rfl cd37 rfl rfl rfl (by simp;rfl) (by simp;rfl) ?_
 have hc1:=hc.1
 obtain⟨k,hk⟩:∃k,c.length=k:=⟨_,rfl⟩
 have hB:=zRf hc (i:=a % k)
 have hB2:=zRf hc (i:=(a+1) % k)
 obtain⟨q,hq0⟩:∃q,a / k=q:=⟨_,rfl⟩
 have hq:q≤a:=by rw[←hq0];exact Nat.div_le_self ..
 refine wa_ (zB (w_ (a_ (h:=zC (e_ (h:=zA (wa_ (zB (w_ (m_ (h:=w_ (m_ (h:=w_ (nc (h:=w_ (f_ (h:=w_ (l_ (h:=?_)))))))))))))))))))
 refine w_ (?_)
 refine b_ (hv:=kG (c:=a+1) (by simp) (by omega)) (h:=?_)
 refine w_ (nc (h:=w_ (f_ (h:=w0 (s_ (h:=zC (e_ (h:=zA (wa_ (wa_ (zB (w_ (m_ (h:=w_ (b_ (h:=zC (e_ (h:=zA (?_)))))))))))))))))))
 refine c_ (h1:=?_) (h2:=?_)
 rotate_right 1
 focus
  intro c1
  first
  | exact dn c1
  | (
   have d1:=c1;try simp at d1
   refine zD (?_)
   )
 rotate_right 1
 focus
  intro c1
  first
  | exact dn c1
  | (
   have d1:=c1;try simp at d1
   refine wa_ (zB (w_ (a_ (h:=zC (e_ (h:=zA (zH (?_))))))))
   )
 all_goals first
 | refine zL ?_
 | (
  refine zA ?_
  refine wa_ (zB (w_ (m_ (h:=w_ (nc (h:=w_ (f_ (h:=w_ (l_ (h:=w_ (?_)))))))))))
  refine b_ (hv:=jT (c:=a) (by simp) (by omega)) (h:=?_)
  refine w_ (a_ (h:=zC (e_ (h:=zA (wa_ (zB (w_ (m_ (h:=w_ (nc (h:=w_ (f_ (h:=w_ (l_ (h:=w_ (le (h:=w_ (a_ (h:=zC (e_ (h:=?_)))))))))))))))))))))
  refine zA (wa_ (wa_ (zB (w_ (m_ (h:=w_ (bE (h:=zC (e_ (h:=zA (?_)))))))))))
  refine c_ (h1:=?_) (h2:=?_)
  rotate_right 1
  focus
   intro c2
   first
   | exact dn c2
   | (
    have d2:=c2;try simp at d2
    have hk0:0<k:=(by have:=List.length_pos_iff.2 (show c≠[] by simpa using c2);omega);have hkn:¬k=0:=(by omega);have hm1:=Nat.mod_lt a hk0;have hm2:=Nat.mod_lt (a+1) hk0;have g1:(bys c)[a % k]? = _:=zS4 (by omega);have g2:(bys c)[(a+1) % k]? = _:=zS4 (by omega)
    refine zD (?_)
    )
  rotate_right 1
  focus
   intro c2
   first
   | exact dn c2
   | (
    have d2:=c2;try simp at d2
    have hk1:k=0:=(by have h0:c=[]:=(by simpa using c2);rw[h0] at hk;exact hk.symm)
    refine wa_ (zB (w_ (m_ (h:=w_ (?_)))))
    refine b_ (hv:=zIm (c:=(a:Int) * 7) rfl (by omega) (by omega)) (h:=?_)
    refine w_ (m_ (h:=w_ (?_)))
    refine b_ (hv:=zUu (by omega) (by omega)) (h:=?_)
    refine w_ (a_ (h:=zC (e_ (h:=zA (zH (?_))))))
    )
  all_goals first
  | refine zL ?_
  | (
   refine zA ?_
   refine wa_ (qE (y_ (m_ (h:=ax_ (h:=y_ (nc (h:=ax_ (h:=y_ (f_ (h:=ax_ (h:=y_ (l_ (h:=ax_ (h:=y_ (m_ (h:=ax_ (h:=y_ (m_ (h:=ax_ (h:=y_ (?_)))))))))))))))))))))
   refine b_ (hv:=zZm (a:=a) (b:=k) rfl (by simp[hk]) hk0) (h:=?_)
   refine ax_ (h:=y_ (x_ (h:=ax_ (h:=y_ (l_ (h:=ax_ (h:=y_ (?_))))))))
   refine cv (h:=?_)
   refine ax_ (h:=y_ (m_ (h:=ax_ (h:=y_ (m_ (h:=ax_ (h:=y_ (?_))))))))
   refine b_ (hv:=qG2 (a:=a) (b:=k) rfl (by simp[hk]) hk0 hq0 (by omega)) (h:=?_)
   refine ax_ (h:=y_ (?_))
   refine b_ (hv:=zIm (c:=(q:Int) * 37) rfl (by omega) (by omega)) (h:=?_)
   refine ax_ (h:=y_ (?_))
   refine b_ (hv:=zBo (c:=c.getD (a % k) 0+(q:Int) * 37) (by rw[qH (by omega) (by omega)]) (by omega) (by omega)) (h:=?_)
   refine ax_ (h:=y_ (a_ (h:=ax_ (h:=zC (ed (h:=zA (wa_ (wa_ (zB (w_ (m_ (h:=w_ (b_ (h:=zC (e_ (h:=zA (?_)))))))))))))))))
   refine c_ (h1:=?_) (h2:=?_)
   rotate_right 1
   focus
    intro c3
    first
    | exact dn c3
    | (
     have d3:=c3;try simp at d3
     refine zD (?_)
     )
   rotate_right 1
   focus
    intro c3
    first
    | exact dn c3
    | (
     have d3:=c3;try simp at d3
     refine qE (y_ (m_ (h:=ax_ (h:=y_ (?_)))))
     refine b_ (hv:=zIm (c:=(c.getD (a % k) 0+(q:Int) * 37) * 251) rfl (by omega) (by omega)) (h:=?_)
     refine ax_ (h:=y_ (m_ (h:=ax_ (h:=y_ (nc (h:=ax_ (h:=y_ (f_ (h:=ax_ (h:=y_ (l_ (h:=ax_ (h:=y_ (m_ (h:=ax_ (h:=y_ (?_)))))))))))))))))
     refine b_ (hv:=kG (c:=a+1) (by simp) (by omega)) (h:=?_)
     refine ax_ (h:=y_ (m_ (h:=ax_ (h:=y_ (?_)))))
     refine b_ (hv:=zZm (a:=a+1) (b:=k) rfl (by simp[hk]) hk0) (h:=?_)
     refine ax_ (h:=y_ (x_ (h:=ax_ (h:=y_ (l_ (h:=ax_ (h:=y_ (?_))))))))
     refine cv (h:=?_)
     refine ax_ (h:=y_ (?_))
     refine b_ (hv:=zIm (c:=c.getD ((a+1) % k) 0 * 13) (by rw[qH (by omega) (by omega)]) (by omega) (by omega)) (h:=?_)
     refine ax_ (h:=y_ (?_))
     refine b_ (hv:=zBo (c:=(c.getD (a % k) 0+(q:Int) * 37) * 251+c.getD ((a+1) % k) 0 * 13) rfl (by omega) (by omega)) (h:=?_)
     refine ax_ (h:=y_ (m_ (h:=ax_ (h:=y_ (?_)))))
     refine b_ (hv:=zBo (c:=(c.getD (a % k) 0+(q:Int) * 37) * 251+c.getD ((a+1) % k) 0 * 13+(a:Int)) rfl (by omega) (by omega)) (h:=?_)
     refine ax_ (h:=y_ (a_ (h:=ax_ (h:=zC (ed (h:=?_))))))
     )
   all_goals first
   | (
    refine zA ?_
    refine wa_ (zB (w_ (m_ (h:=w_ (m_ (h:=w_ (?_)))))))
    refine b_ (hv:=zUu (by omega) (by omega)) (h:=?_)
    refine w_ (a_ (h:=zC (e_ (h:=zA (zH (?_))))))
    )
   )
  )
 all_goals (refine qZ (hr:=(zR rfl zO)) (h:=?_);(focus (unfold zB8;rw[hk,hq0];first|(rw[if_pos (by omega)];simp[kW];done)|(rw[if_neg (by omega),if_pos hk1];simp[kW];done)|(rw[if_neg (by omega),if_neg hkn];simp only[];first|(rw[if_pos (by simpa using c3)];simp[kW];done)|(rw[if_neg (by simpa using c3)];simp[kW];done)))))
end Go.Proofs.YtbcgenkegnmkhaaGreat.Ev
namespace Go.Proofs.YtbcgenkegnmkhaaGreat.Ev
open Go
set_option maxRecDepth 100000
set_option linter.unusedSimpArgs false
set_option linter.unusedVariables false
set_option maxHeartbeats 2000000
theorem zCw (c:List Int) (a:Nat) (l:List Int) (hc:okS c) (ha:a<1000000000) (hl:0<l.length) (hl2:l.length<1000000):oc.call 42 [.iop (kW c a),.lst true 1 (ints l)]=some (.int .i64 (at0 l (zB8 c a l.length)),[kW c (a+1)]):=by
 refine qD rfl cd42 rfl rfl rfl (by simp;rfl) (by simp;rfl) ?_
 obtain⟨h1,h2⟩:=vG (c:=c) (a:=a) (n:=l.length) (by omega)
 have g1:=kC (w:=l) h1 h2
 refine wa_ (zB (w_ (a_ (h:=zC (e_ (h:=zA (wa_ (zB (w_ (m_ (h:=w_ (m_ (h:=w_ (m_ (h:=w_ (le (h:=w_ (cP (hc:=jF c a l.length hc ha (by omega)) (h:=?_)))))))))))))))))))
 refine w_ (x_ (h:=w_ (l_ (h:=w_ (a_ (h:=zC (e_ (h:=zA (zH (?_))))))))))
 all_goals (refine qZ (hr:=(zR rfl zO)) (h:=?_);(focus (simp[kW])))
theorem zWu (c:List Int) (a:Nat) (n:Int) (hc:okS c) (ha:a<1000000000) (hn:n<1000000):oc.call 36 [.iop (kW c a),.int .i64 n]=some (.bool (decide (zB8 c a n=0)),[kW c (a+1)]):=by
 refine qD rfl cd36 rfl rfl rfl (by simp;rfl) (by simp;rfl) ?_
 refine wa_ (zB (w_ (a_ (h:=zC (e_ (h:=zA (wa_ (zB (w_ (m_ (h:=w_ (m_ (h:=w_ (cP (hc:=jF c a n hc ha (by omega)) (h:=w_ (bE (h:=w_ (a_ (h:=?_)))))))))))))))))))
 refine zC (e_ (h:=zA (zH (?_))))
 all_goals (refine qZ (hr:=(zR rfl zO)) (h:=?_);(focus (simp[kW])))
def cellD (c:List Int) (a:Nat):Int:=at0 [zB8 c a 4,zB8 c (a+1) 4,zB8 c (a+2) 4,IntKind.i64.wrap (-zB8 c (a+3) 5),zB8 c (a+4) 90000] (zB8 c (a+5) 5)
def rowD (c:List Int):Nat→Nat→List Int
 | 0,_=>[]
 | n+1,a=>cellD c a::rowD c n (a+6)
@[simp] theorem zVc (c:List Int):∀(n a:Nat),(rowD c n a).length=n
 | 0,_=>rfl
 | n+1,a=>by simp[rowD,zVc c n (a+6)]
theorem zZw {Q:Ext×St→Prop} {f k:Nat} {fn:Func} {body full:Code} {s s0:St} (hf:cf.code f=some fn) (hb:fn.body=some full) (hk:qC k full=some body) (hs:zI (fn.params.size+fn.nfree) (qAv f k) s=s0)
  (h:wpC oc cf f body s0 (fun e s'=>match e with
   | .normal=>∃r,oc.loop f k s'=some r∧Q r
   | e=>Q (e,zI (fn.params.size+fn.nfree) (outT f k) s'))):∃r,oc.loop f k s=some r∧Q r:=by
 obtain⟨⟨e,s'⟩,h1,h2⟩:=h
 cases e with
 | normal=>obtain⟨r,h3,h4⟩:=h2;exact⟨r,qB hf hb hk hs ⟨(.normal,s'),h1,h3⟩,h4⟩
 | ret=>exact⟨_,qB hf hb hk hs ⟨(.ret,s'),h1,rfl⟩,h2⟩
 | exit i=>exact⟨_,qB hf hb hk hs ⟨(.exit i,s'),h1,rfl⟩,h2⟩
theorem zUo {σ:Type} {f k np:Nat} {keep:Option (List Nat)} (μ:σ→Nat) (P:σ→Prop) (H:σ→St) (R:σ→Ext×St→Prop)
  (step:∀x,P x→(∀y,P y→μ y<μ x→∀s',zI np keep s'=H y→∃r,oc.loop f k s'=some r∧R y r)→∀s,zI np keep s=H x→∃r,oc.loop f k s=some r∧R x r) :
  ∀x,P x→∀s,zI np keep s=H x→∃r,oc.loop f k s=some r∧R x r:=by
 have key:∀m x,μ x<m→P x→∀s,zI np keep s=H x→∃r,oc.loop f k s=some r∧R x r:=by
  intro m
  induction m with
  | zero=>intro x h;omega
  | succ m ih=>intro x h hp;exact step x hp (fun y hy hm=>ih y (by omega) hy)
 intro x
 exact key (μ x+1) x (by omega)
theorem zWt {fn:FuncId} {b:Code} {s:St} {R:Ext×St→Prop} {Q:Ext→St→Prop} (h:∃r,oc.loop fn (zA7 b) s=some r∧R r) (hq:∀e s',R (e,s')→Q e s'):wpC oc cf fn (.loop b) s Q:=by
 obtain⟨⟨e,s'⟩,h1,h2⟩:=h
 exact qF h1 (hq e s' h2)
theorem zT8 {Q:V×List V→Prop} {f:FuncId} {fn:Func} {body:Code} {args:List V} {e:List (Nat×V)} {o:List (Nat×Ob)} {n:Nat} (hn:qLe f=false) (hf:cf.code f=some fn) (hb:fn.body=some body) (hl:args.length=n) (hl2:n=fn.params.size+fn.nfree) (he:(zQ 0 args).1=e) (ho:(zQ 0 args).2=o)
  (h:wpC oc cf f body ⟨e,o,n⟩ (fun e s=>(e = .normal∨e = .ret)∧∃vs,zE0 cf s fn.results.toList=some vs∧∃r,V.fzL vs ⟨[],s.obs,s.nxt⟩=r∧∃q,r=some q∧∃os,yT 0 args q.2=some os∧Q (zEg q.1,os))) (hh:hsT f=false:=by rfl):∃r,oc.call f args=some r∧Q r:=by
 obtain⟨r,h1,h2,vs,h3,q,h4,u,h5,os,h6,h7⟩:=h
 exact⟨_,qD hn hf hb hl hl2 he ho ⟨r,h1,h2,vs,h3,q,h4,u,h5,os,h6,rfl⟩ hh,h7⟩
theorem zXy {Q:V×List V→Prop} {e:Ext} {s:St} {fn:Func} {args:List V} {vs:List V} {r:Option (List V×St)} {q:List V×St} {os:List V} (he:e = .normal∨e = .ret:=by simp)
  (hr:zE0 cf s fn.results.toList=some vs)
  (hz:V.fzL vs ⟨[],s.obs,s.nxt⟩=r:=by(simp;rfl)) (hq:r=some q:=by rfl) (ho:yT 0 args q.2=some os:=by(simp;rfl)) (h:Q (zEg q.1,os)) :
  (e = .normal∨e = .ret)∧∃vs,zE0 cf s fn.results.toList=some vs∧∃r,V.fzL vs ⟨[],s.obs,s.nxt⟩=r∧∃q,r=some q∧∃os,yT 0 args q.2=some os∧Q (zEg q.1,os) :=
 ⟨he,vs,hr,r,hz,q,hq,os,ho,h⟩
end Go.Proofs.YtbcgenkegnmkhaaGreat.Ev
namespace Go.Proofs.YtbcgenkegnmkhaaGreat.Ev
open Go
set_option maxRecDepth 100000
set_option linter.unusedSimpArgs false
set_option linter.unusedVariables false
set_option maxHeartbeats 2000000
def zYf (call:Call) (cfg:Cfg) (k id base:Nat) (e:List (Nat×V)) (o:List (Nat×Ob)) (n:Nat) (t:TypeId) (op:Op) (K:V→List (Nat×Ob)→Prop):Prop :=
 ∃v o',opA call cfg k id base ⟨e,o,n⟩ t op=some (v,⟨e,o',n⟩)∧K v o'
section
variable {orc : Orc} {fn : FuncId} {s : St} {Q : Ext→St→Prop}
theorem zLr {id k:Nat} {ops:Array Oper} (hal:cf.alR fn id=k:=by first|(rw[zYb];done)|(rw[zYb];rfl)) (hk:k≠0:=by decide) (h:wpA orc.call cf k ops.toList s.nxt ops.toList s (fun t=>Q .normal t)):wpC orc cf fn (.region id ops false) s Q:=zY7 hal hk h
end
section
variable {call : Call} {all rest : List Oper} {base k : Nat} {Q : St→Prop} {e : List (Nat × V)} {o : List (Nat × Ob)} {n : Nat} {d : Nat} {op : Op} {t : TypeId} {p : String} {af : Array Edge}
theorem wA (h:zYf call cf k n base e o n t op (fun v o'=>wpA call cf k all base rest ⟨(d,v)::e,o',n+32⟩ Q)):wpA call cf k all base (⟨some d,op,t,p,af,none⟩::rest) ⟨e,o,n⟩ Q:=by
 obtain⟨v,o',h1,t,h2,h3⟩:=h
 refine⟨t,?_,h3⟩
 simp only[zK4,kZ,h1,Nat.max_self,St.put,St.on,Bool.false_eq_true,if_false,yH]
 exact h2
theorem oA {id:Nat} {K:V→List (Nat×Ob)→Prop} (hb:opB cf k id base ⟨e,o,n⟩ op=none:=by first|rfl|(simp[opB];done)) (ha:zCk ⟨e,o,n⟩ op=none:=by first|rfl|(simp[zCk];done)) (h:opK call cf id base e o n t op K):zYf call cf k id base e o n t op K:=by
 obtain⟨v,o',h1,h2⟩:=h
 exact⟨v,o',by simp only[opA,hb,ha,h1],h2⟩
theorem gA {j:Nat} {want b:Bool} {dd:Option Tmp} (hb:((all[j]?).bind (·.dst)).bind (zN e)=some (.bool b):=by exact rfl) (hw:b=want:=by first|exact rfl|assumption) (h:wpA call cf k all base (⟨dd,op,t,p,af,none⟩::rest) ⟨e,o,n⟩ Q):wpA call cf k all base (⟨dd,op,t,p,af,some (j,want)⟩::rest) ⟨e,o,n⟩ Q:=by
 obtain⟨t,h2,h3⟩:=h
 refine⟨t,?_,h3⟩
 subst hw
 rw[←h2]
 simp only[zK4,kZ,hb,BEq.rfl]
theorem goA {j:Nat} {want b:Bool} (hb:((all[j]?).bind (·.dst)).bind (zN e)=some (.bool b):=by exact rfl) (hw:b=!want:=by first|exact rfl|assumption) (h:wpA call cf k all base rest ⟨(d,.iop .und)::e,o,n+32⟩ Q):wpA call cf k all base (⟨some d,op,t,p,af,some (j,want)⟩::rest) ⟨e,o,n⟩ Q:=by
 obtain⟨t,h2,h3⟩:=h
 refine⟨t,?_,h3⟩
 subst hw
 rw[←h2]
 have:((!want)==want)=false:=by cases want<;>rfl
 simp only[zK4,kZ,hb,this,St.put,St.on,Bool.false_eq_true,if_false,yH]
theorem gwA {j:Nat} {want b:Bool} {dd:Option Tmp} (hb:((all[j]?).bind (·.dst)).bind (zN e)=some (.bool b):=by exact rfl)
  (h1:b=want→wpA call cf k all base (⟨dd,op,t,p,af,some (j,want)⟩::rest) ⟨e,o,n⟩ Q) (h2:b=!want→wpA call cf k all base (⟨dd,op,t,p,af,some (j,want)⟩::rest) ⟨e,o,n⟩ Q) :
  wpA call cf k all base (⟨dd,op,t,p,af,some (j,want)⟩::rest) ⟨e,o,n⟩ Q:=by
 by_cases h:b=want
 ·exact h1 h
 ·exact h2 (by cases b<;>cases want<;>simp_all)
theorem nA {m n':Nat} (hn:m=n':=by((try simp);rfl)) (h:Q ⟨e,o,n'⟩):wpA call cf k all base [] ⟨e,o,m⟩ Q:=by subst hn;exact⟨_,rfl,h⟩
end
section
variable {all rest : List Oper} {base k : Nat} {Q : St→Prop} {e : List (Nat × V)} {o : List (Nat × Ob)} {n : Nat} {d : Nat} {t : TypeId} {p : String} {af : Array Edge}
theorem iA {args:Array Operand} {ts:Array TypeId} {fo:Operand} {f:FuncId} {cs vs:List V} {fn:Func} {body:Code} (hcd:cf.code f=some fn) (hbd:fn.body=some body) (hx:jX e args.toList=some vs:=by exact rfl) (hf:opV e fo=some (.clo f cs):=by exact rfl) (hlen:(vs++cs).length=fn.params.size+fn.nfree:=by rfl) (hB:cf.inB f=true:=by(rw[zCp];rfl)) (hP:cf.plB f=false:=by(rw[zR0];rfl)) (hk:V.capsOk cs=true:=by exact rfl) (ha:zCk ⟨e,o,n⟩ (.call ⟨.value fo,args,ts⟩)=none:=by(simp[zCk];done))
  (h:wpC ⟨oc.call,jY oc.call cf 6⟩ cf f body ⟨vX 0 (vs++cs),o,n⟩ (fun t s=>(t = .normal∨t = .ret)∧∃ws,zE0 cf s fn.results.toList=some ws∧ws.all (fun v=>!v.isTup)=true∧wpA oc.call cf k all base rest ⟨(d,zEg ws)::e,s.obs,max n s.nxt+32⟩ Q)) :
  wpA oc.call cf k all base (⟨some d,.call ⟨.value fo,args,ts⟩,t,p,af,none⟩::rest) ⟨e,o,n⟩ Q:=by
 obtain⟨r,h1,h2,ws,h3,h4,t',h5,h6⟩:=h
 have hi:oc.call.i f (vs++cs) ⟨e,o,n⟩ n=some (zEg ws,⟨e,r.2.obs,r.2.nxt⟩):=by
  have hI:zNm oc.call cf f (vs++cs) ⟨e,o,n⟩ n=some (zEg ws,⟨e,r.2.obs,r.2.nxt⟩):=by
   unfold zNm
   simp only[hcd,hbd,if_pos hlen,h1,if_pos h2,h3,if_pos h4]
  exact zZi hP hI
 refine⟨t',?_,h6⟩
 have hb:opB cf k n base ⟨e,o,n⟩ (.call ⟨.value fo,args,ts⟩)=none:=by simp only[opB,hx]
 simp only[zK4,kZ,opA,hb,ha,opE,hx,hf,if_pos hk,if_pos hB,hi,St.put,St.on,Bool.false_eq_true,if_false,yH]
 exact h5
end
def uQ (call:Call) (n:Nat) (fn:FuncId) (b:Code) (Q:Ext→St→Prop):Ext→St→Prop:=fun e s=>match e with
 | .normal=>∃r,jY call cf n fn (zA7 b) s=some r∧Q r.1 r.2
 | e=>Q e s
theorem uL {call:Call} {n:Nat} {fn:FuncId} {f:Func} {full b:Code} {s:St} {Q:Ext→St→Prop} (hf:cf.code fn=some f) (hb:f.body=some full) (hk:qC (zA7 b) full=some b) (h:wpC ⟨call,jY call cf n⟩ cf fn b s (uQ call n fn b Q)):wpC ⟨call,jY call cf (n+1)⟩ cf fn (.loop b) s Q:=by
 refine zXu hf hb hk ?_
 obtain⟨r,h1,h2⟩:=h
 refine⟨r,h1,?_⟩
 obtain⟨e,s'⟩:=r
 cases e<;>exact h2
theorem uN {call:Call} {n:Nat} {fn:FuncId} {b:Code} {s:St} {Q:Ext→St→Prop} (h:wpC ⟨call,jY call cf n⟩ cf fn (.loop b) s Q):uQ call n fn b Q .normal s:=h
theorem uX {call:Call} {n i:Nat} {fn:FuncId} {b:Code} {s:St} {Q:Ext→St→Prop} (h:Q (.exit i) s):uQ call n fn b Q (.exit i) s:=h
section
variable {call : Call} {id base n : Nat} {e : List (Nat × V)} {o : List (Nat × Ob)} {t : TypeId} {K : V→List (Nat × Ob)→Prop}
theorem qG7 {args:Array Operand} {ts:Array TypeId} {t1 t2 e1 e2:TypeId} {z:V} {q p m vq vp:Nat} {xs:List V} {o1:List (Nat×Ob)} (hx:jX e args.toList=some [.ref q 0 0,.ref p 0 m]:=by exact rfl) (h1:ts[0]? = some t1:=by exact rfl) (h2:ts[1]? = some t2:=by exact rfl) (he1:cf.elem t1=some e1:=by exact tys_ok.elem _ _ rfl) (hz:cf.zero e1=some z:=by exact tys_ok.zero _ _ rfl) (he2:cf.elem t2=some e2:=by exact tys_ok.elem _ _ rfl)
  (hq:zN o q=some ⟨false,false,z.cells,[],vq⟩:=by exact rfl) (hp:zN o p=some ⟨false,false,z.cells,xs,vp⟩:=by exact rfl) (hm:m=xs.length:=by first|rfl|simp) (h0:0<m:=by first|omega|(simp<;>omega)) (hlt:m<zBd:=by(simp[zBd]<;>omega)) (hd:jU o q=o1:=by(simp;rfl))
  (h:K (.ref id 0 m) ((id,⟨true,true,z.cells,kD p vp 0 xs,0⟩)::o1)):zYf call cf 1 id base e o n t (.call ⟨.builtin .append,args,ts⟩) K:=by
 subst hd
 refine⟨_,_,?_,h⟩
 have hlen:=yP (o:=p) (ver:=vp) (xs:=xs) (i:=0)
 subst hm
 have hA:zBu cf ⟨e,o,n⟩ t1 id base (.ref q 0 0) (.ref p 0 xs.length)=some (.ref id 0 xs.length,⟨e,(id,⟨true,true,z.cells,kD p vp 0 xs,0⟩)::jU o q,n⟩):=by
  simp only[zBu,he1,Option.bind_some,hz,St.baseA,hq,Bool.false_eq_true,false_and,if_false,St.elemsA,hp,true_and,if_true,St.base,St.give,Nat.add_zero,List.length_nil,Nat.le_refl,and_self,List.drop_nil,List.take_nil,hlen,h0,hlt,St.new,yH]
 simp only[opA,opB,hx,h1,h2,he2,Option.isSome_some,if_true,hA]
theorem zNr {args:Array Operand} {ts:Array TypeId} {t1 t2 e1 e2:TypeId} {z:V} {q p m m2 sp vq vp:Nat} {xs ys:List V} {o1:List (Nat×Ob)} (hx:jX e args.toList=some [.ref q 0 m,.ref p 0 m2]:=by exact rfl) (h1:ts[0]? = some t1:=by exact rfl) (h2:ts[1]? = some t2:=by exact rfl) (he1:cf.elem t1=some e1:=by exact tys_ok.elem _ _ rfl) (hz:cf.zero e1=some z:=by exact tys_ok.zero _ _ rfl) (he2:cf.elem t2=some e2:=by exact tys_ok.elem _ _ rfl)
  (hq:zN o q=some ⟨true,true,z.cells,xs,vq⟩:=by exact rfl) (hp:zN o p=some ⟨false,false,sp,ys,vp⟩:=by exact rfl) (hne:q≠p:=by decide) (hbase:base≤p:=by(simp<;>omega)) (hm:m=xs.length:=by first|rfl|simp) (hm2:m2=ys.length:=by first|rfl|simp) (h0:0<ys.length:=by simp) (hc:V.cellsAll z.cells ys=true:=by(simp[*];try rfl)) {m3:Nat} (hm3:(xs++ys).length=m3) (hlt:m3<zBd:=by(simp[zBd]<;>omega)) (hd:jU (jU o p) q=o1:=by(simp;rfl))
  (h:K (.ref id 0 m3) ((id,⟨true,true,z.cells,xs++ys,0⟩)::o1)):zYf call cf 1 id base e o n t (.call ⟨.builtin .append,args,ts⟩) K:=by
 subst hd hm hm2 hm3
 refine⟨_,_,?_,h⟩
 have hq2:zN (jU o p) q=some ⟨true,true,z.cells,xs,vq⟩:=by rw[qS hne];exact hq
 have hA:zBu cf ⟨e,o,n⟩ t1 id base (.ref q 0 xs.length) (.ref p 0 ys.length)=some (.ref id 0 (xs++ys).length,⟨e,(id,⟨true,true,z.cells,xs++ys,0⟩)::jU (jU o p) q,n⟩):=by
  simp only[zBu,he1,Option.bind_some,hz,St.baseA,hq,and_self,if_true,St.elems,if_pos hbase,St.give,hp,Nat.zero_add,Nat.le_refl,List.drop_zero,List.take_length,zK,hq2,hc,h0,hlt,St.new,yH]
 simp only[opA,opB,hx,h1,h2,he2,Option.isSome_some,if_true,hA]
theorem kA_ix {t' el:TypeId} {x ix:Operand} {k:IntKind} {a:Int} {q m j sz v:Nat} {xs:List V} {z y:V} (hx:opV e x=some (.ref q 0 m):=by exact rfl) (hi:opV e ix=some (.int k a):=by exact rfl) (he:cf.elem t'=some el:=by exact tys_ok.elem _ _ rfl) (hz:cf.zero el=some z:=by exact tys_ok.zero _ _ rfl) (hq:zN o q=some ⟨true,true,sz,xs,v⟩:=by exact rfl)
  (ha:a=(j:Int)) (hj:j<m) (hy:xs[j]? = some y) (hc:y.cells=z.cells) (h:K (.ptr q j []) o):zYf call cf 1 id base e o n t (.indexAddr t' x ix) K:=by
 subst ha
 refine⟨_,_,?_,h⟩
 simp only[opA,opB,hx,hi,zOb,he,Option.bind_some,hz,Int.natCast_nonneg,if_true,Int.toNat_natCast,if_pos hj,hq,and_self,Nat.zero_add,hy,if_pos hc,zK]
theorem qAc {args:Array Operand} {ts:Array TypeId} {fo:Operand} {f:FuncId} {q m sz v:Nat} {xs ys:List V} {k:IntKind} {r:Int} (hx:jX e args.toList=some [.ref q 0 m]:=by exact rfl) (hf:opV e fo=some (.clo f []):=by exact rfl) (hB:cf.inB f=false:=by(rw[zCp];rfl)) (hmd:cf.md f=[]:=by(rw[xW];rfl)) (hq:zN o q=some ⟨true,true,sz,xs,v⟩:=by exact rfl)
  (hm:m=xs.length:=by first|rfl|simp) (h0:0<m:=by first|omega|(simp<;>omega)) (hs:V.snapL ⟨[],o,n⟩ xs=some ys) (hc:call f [.lst false 0 ys]=some (.int k r,[])) (h:K (.int k r) o):zYf call cf 1 id base e o n t (.call ⟨.value fo,args,ts⟩) K:=by
 refine⟨_,_,?_,h⟩
 have hs':V.snapL ⟨e,o,n⟩ xs=some ys:=(zJ6 e ⟨[],o,n⟩ xs).trans hs
 have hb:opB cf 1 id base ⟨e,o,n⟩ (.call ⟨.value fo,args,ts⟩)=none:=by simp only[opB,hx]
 have ha:zCk ⟨e,o,n⟩ (.call ⟨.value fo,args,ts⟩)=some (f,[.ref q 0 m]):=by simp only[zCk,hx,hf,hq,and_self,if_true]
 subst hm
 simp only[opA,hb,ha,zJi,hmd,hB,and_self,if_true,hq,h0,hs',hc,zK]
theorem kA_mv {x:Operand} {q lo m:Nat} {o1:List (Nat×Ob)} (hx:opV e x=some (.ref q lo m):=by exact rfl) (hu:St.unalias ⟨e,o,n⟩ q=some ⟨e,o1,n⟩) (h:K (.ref q lo m) o1):zYf call cf 2 id base e o n t (.move x) K:=by
 refine⟨_,_,?_,h⟩
 simp only[opA,opB,if_true,hx,hu,zK]
end
theorem zIh {a b c:Int} (h:a - b=c) (h1:-4000000000000000000≤c) (h2:c<4000000000000000000):zE6 .sub .i64 a b=some (.int .i64 c):=by
 simp only[zE6];rw[h,qH (by omega) (by omega)]
theorem zO2 {s:St} {p v:Nat} {sz:Nat} {bx fx:Bool} {l:List Nd} (h:zN s.obs p=some ⟨bx,fx,sz,nds true 1 l,v⟩):∀(m:List Nd) (i:Nat),(∀j x,m[j]? = some x→l[i+j]? = some x)→V.snapL s (kD p v i (nds true 1 m))=some (nds false 0 m)
 | [],i,_=>rfl
 | x::m,i,hm=>by
  have hx:l[i]? = some x:=by have:=hm 0 x rfl;simpa using this
  have hg:Ob.get ⟨bx,fx,sz,nds true 1 l,v⟩ i [6]=some (.lst true 1 (ints x.cells)):=by
   have:=zDn (t:=true) (s:=1) hx
   simp only[Ob.get,this,Nd.v,jR,List.getElem?_cons_succ,List.getElem?_cons_zero]
  have hat:s.at p i [6] v x.cells.length=some (1,ints x.cells,⟨bx,fx,sz,nds true 1 l,v⟩):=by
   have hl:(ints x.cells).length=x.cells.length:=by simp
   simp only[St.at,h,if_true,hg,hl]
  have ih:=zO2 h m (i+1) (fun j y hj=>by have:=hm (j+1) y hj;rw[←this];congr 1;omega)
  simp only[zOc,kD,V.snapL,ih,zK,Nd.v,V.lod,V.lodL,List.nil_append,Nat.zero_add,Nat.reduceAdd,V.snap,zNx,hat,zDe]
theorem zZq {p sz:Nat}:∀(m:List Nd) (i:Nat) (s:St) (xs:List V),zN s.obs p=some ⟨false,false,sz,xs,0⟩→(∀j x,m[j]? = some x→xs[i+j]? = some (x.v true 1)) →
  ∃L,(∀x∈L,x.1=p)∧V.fzIL (kD p 0 i (nds true 1 m)) s=some (nds true 1 m,⟨s.env,L++s.obs,s.nxt⟩)
 | [],i,s,xs,_,_=>⟨[],fun _ h=>(by cases h),rfl⟩
 | x::m,i,s,xs,h,hm=>by
  have hx:xs[i]? = some (x.v true 1):=by have:=hm 0 x rfl;simpa using this
  have hlt:i<xs.length:=(List.getElem?_eq_some_iff.1 hx).1
  have hg:Ob.get ⟨false,false,sz,xs,0⟩ i [6]=some (.lst true 1 (ints x.cells)):=by
   simp only[Ob.get,hx,Nd.v,jR,List.getElem?_cons_succ,List.getElem?_cons_zero]
  have hl:(ints x.cells).length=x.cells.length:=by simp
  have hat:s.at p i [6] 0 x.cells.length=some (1,ints x.cells,⟨false,false,sz,xs,0⟩):=by
   simp only[St.at,h,if_true,hg,hl]
  obtain⟨xu,hset⟩:∃xu,Ob.set ⟨false,false,sz,xs,0⟩ i [6] .und=some ⟨false,false,sz,xs.set i xu,0⟩:=by
   simp only[Ob.set,hx,Nd.v,zBz,List.getElem?_cons_succ,List.getElem?_cons_zero,zK]
   exact⟨_,rfl⟩
  have htk:s.takeQ p i [6] 0 x.cells.length=some (1,ints x.cells,⟨s.env,(p,⟨false,false,sz,xs.set i xu,0⟩)::s.obs,s.nxt⟩):=by
   simp only[St.takeQ,hat,hset,zK,yH]
  obtain⟨L,hL,hr⟩:=zZq (p:=p) (sz:=sz) m (i+1) ⟨s.env,(p,⟨false,false,sz,xs.set i xu,0⟩)::s.obs,s.nxt⟩ (xs.set i xu) (by simp[zN]) (fun j y hj=>by
   rw[List.getElem?_set_ne (by omega)]
   have:=hm (j+1) y hj
   rw[←this];congr 1;omega)
  refine⟨L++[(p,⟨false,false,sz,xs.set i xu,0⟩)],fun y hy=>?_,?_⟩
  ·rcases List.mem_append.1 hy with hy|hy
   ·exact hL y hy
   ·simp at hy;rw[hy]
  ·have h1:V.fzI ((x.v true 1).lod p i 0 []) s=some (x.v true 1,⟨s.env,(p,⟨false,false,sz,xs.set i xu,0⟩)::s.obs,s.nxt⟩):=by
    simp only[Nd.v,V.lod,V.lodL,List.nil_append,Nat.zero_add,Nat.reduceAdd,V.fzI,V.fzIL,V.fz,zK,zNx,htk]
   simp only[zOc,kD,V.fzIL,h1,hr,zK,List.append_assoc,List.singleton_append]
theorem zP0:∀{a b:List V} {s s1 s2:St} {x y:List V},V.fzIL a s=some (x,s1)→V.fzIL b s1=some (y,s2)→V.fzIL (a++b) s=some (x++y,s2)
 | [],b,s,s1,s2,x,y,h1,h2=>by simp only[V.fzIL,Option.some.injEq,Prod.mk.injEq] at h1;obtain⟨rfl,rfl⟩:=h1;exact h2
 | v::a,b,s,s1,s2,x,y,h1,h2=>by
  simp only[V.fzIL] at h1
  cases hv:v.fzI s with
  | none=>rw[hv] at h1;cases h1
  | some r =>
   rw[hv] at h1
   simp only at h1
   cases ha:V.fzIL a r.2 with
   | none=>rw[ha] at h1;cases h1
   | some q =>
    rw[ha] at h1
    simp only[zK,Option.some.injEq,Prod.mk.injEq] at h1
    obtain⟨rfl,rfl⟩:=h1
    have:=zP0 (b:=b) (s:=r.2) (s1:=q.2) (x:=q.1) ha h2
    simp only[List.cons_append,V.fzIL,hv,this,zK]
theorem zM8 {e:List (Nat×V)} {o:List (Nat×Ob)} {n q p sz v:Nat} {l:List Nd} {x:Nd} (hq:zN o q=some ⟨true,true,sz,kD p 0 0 (nds true 1 l)++[x.v true 1],v⟩) (hp:zN (jU o q) p=some ⟨false,false,7,nds true 1 l,0⟩) :
  ∃L,(∀x∈L,x.1=p)∧St.unalias ⟨e,o,n⟩ q=some ⟨e,(q,⟨false,false,sz,nds true 1 (l++[x]),v+1⟩)::(L++jU o q),n⟩:=by
 obtain⟨L,hL,hr⟩:=zZq (p:=p) (sz:=7) l 0 ⟨e,jU o q,n⟩ (nds true 1 l) hp (fun j y hj=>by rw[Nat.zero_add];exact zDn hj)
 refine⟨L,hL,?_⟩
 have h1:V.fzIL [x.v true 1] ⟨e,L++jU o q,n⟩=some ([x.v true 1],⟨e,L++jU o q,n⟩):=by
  simp only[V.fzIL,Nd.v,V.fzI,V.fz,zK]
 have h2:=zP0 hr h1
 simp only[St.unalias,hq,and_self,if_true,h2,yH,zWn]
theorem zW6 {s:St} {p v sz:Nat} {bx fx:Bool} {l:List Nd} {x:Nd} (h:zN s.obs p=some ⟨bx,fx,sz,nds true 1 l,v⟩):V.snapL s (kD p v 0 (nds true 1 l)++[x.v true 1])=some (nds false 0 (l++[x])):=by
 have h1:=zO2 h l 0 (fun j y hj=>by rw[Nat.zero_add];exact hj)
 have app:∀{a b x y:List V},V.snapL s a=some x→V.snapL s b=some y→V.snapL s (a++b)=some (x++y):=by
  intro a
  induction a with
  | nil=>intro b x y h1 h2;simp only[V.snapL,Option.some.injEq] at h1;subst h1;exact h2
  | cons v a ih =>
   intro b x y h1 h2
   simp only[V.snapL] at h1
   cases hv:v.snap s with
   | none=>rw[hv] at h1;cases h1
   | some r =>
    rw[hv] at h1
    simp only at h1
    cases ha:V.snapL s a with
    | none=>rw[ha] at h1;cases h1
    | some q =>
     rw[ha] at h1
     simp only[zK,Option.some.injEq] at h1
     subst h1
     simp only[List.cons_append,V.snapL,hv,ih ha h2,zK]
 rw[app h1 (show V.snapL s [x.v true 1]=some [x.v false 0] by simp[V.snapL,mp])]
 simp
theorem kA_un {call:Call} {id base n:Nat} {e:List (Nat×V)} {o:List (Nat×Ob)} {t:TypeId} {K:V→List (Nat×Ob)→Prop} {x:Operand} {q m p sz v:Nat} {l:List Nd} {y:Nd} {o1:List (Nat×Ob)} (hx:opV e x=some (.ref q 0 m):=by exact rfl) (hq:zN o q=some ⟨true,true,sz,kD p 0 0 (nds true 1 l)++[y.v true 1],v⟩:=by exact rfl) (hd:jU o q=o1:=by(simp;rfl)) (hp:zN o1 p=some ⟨false,false,7,nds true 1 l,0⟩:=by exact rfl)
  (h:∀L:List (Nat×Ob),(∀x∈L,x.1=p)→K (.ref q 0 m) ((q,⟨false,false,sz,nds true 1 (l++[y]),v+1⟩)::(L++o1))):zYf call cf 2 id base e o n t (.move x) K:=by
 subst hd
 obtain⟨L,hL,hu⟩:=zM8 (e:=e) (n:=n) hq hp
 exact kA_mv hx hu (h L hL)
theorem zRd {α:Type} {L r:List (Nat×α)} {p k:Nat} (hL:∀x∈L,x.1=p) (hk:p≠k):zN (L++r) k=zN r k:=by
 induction L with
 | nil=>rfl
 | cons x L ih =>
  obtain⟨a,b⟩:=x
  have:a=p:=hL (a,b) (List.mem_cons_self ..)
  subst this
  simp only[List.cons_append,zN,if_neg hk,ih (fun y hy=>hL y (List.mem_cons_of_mem _ hy))]
@[simp] theorem Nd_thaw (n:Nd) (id:Nat):V.thaw id (n.v true 1)=(.agg [.int .i64 n.op,.int .i64 n.a,.int .i64 n.b,.int .i64 n.col,.int .i64 n.test,.int .i64 n.value,.ref id 0 n.cells.length],[(id,⟨false,false,1,ints n.cells,0⟩)],id+1):=Nd.thawT 1 n id
theorem zG0:∀l:List Int,V.tidyL (ints l)=true
 | []=>rfl
 | x::l=>by have:=zG0 l;simp only[ints,List.map_cons,V.tidyL,V.tidy,Bool.true_and] at this ⊢;exact this
@[simp] theorem Nd_tidy (n:Nd):V.tidy (n.v true 1)=true:=by simp[Nd.v,V.tidy,V.tidyL,zG0]
@[simp] theorem qGw (c:List Int) (a:Nat):V.tidy (kW c a)=decide (c=[]):=by cases c<;>simp[kW,V.tidy,V.tidyL,bys]
def rightP (l:List Nd):Prop:=1≤l.length∧l.length≤7∧(∀d∈l,d.cells.length≤3)∧(jS l).2=0
theorem rightP.ok {l:List Nd} (h:rightP l):okN l:=fun d hd=>by have:=h.2.2.1 d hd;omega
theorem zPf {l:List Nd} {x:Nd} (h:rightP l) (hl:l.length<7) (hx:x.cells.length≤3) (h0:(jS (l++[x])).2=0):rightP (l++[x]) :=
 ⟨by simp,by simp;omega,fun d hd=>by
  rcases List.mem_append.1 hd with hd|hd
  ·exact h.2.2.1 d hd
  ·simp at hd;rw[hd];exact hx,h0⟩
theorem zAe {ρ:Nat→Option Nat} {vr:Nat→Nat} {q k:Nat} (hq:ρ q=some k) (inj:∀o,ρ o=some k→o=q):∀{O:List (Nat×Ob)} {ob:Ob},zN O q=some ob→zN (zBe ρ vr O) k=some ⟨ob.bx,ob.fx,ob.sz,if ob.bx=true then V.renL ρ vr ob.xs else ob.xs,0⟩
 | [],ob,h=>by cases h
 | (o,b)::r,ob,h=>by
  simp only[zN] at h
  split at h
  ·rename_i e
   subst e
   cases h
   simp only[zBe,hq,zN,if_true]
  ·rename_i e
   have ih:=zAe (vr:=vr) hq inj h
   simp only[zBe]
   cases ho:ρ o with
   | none=>exact ih
   | some k' =>
    simp only[zN]
    rw[if_neg (fun e2=>e (inj o (by rw[ho,e2])))]
    exact ih
theorem zF4 {E:List (Nat×V)} {O:List (Nat×Ob)} {m q k m3 v0 v1:Nat} {c:List Int} {a:Nat} {pl:List Nd} (h0:zN E 0=some (.ptr 0 0 [])) (h3:zN E 3=some (.ref q 0 m3)) (h4:zN E 4=some (.int .i64 k)) (g0:zN O 0=some ⟨true,false,2,[kW c a],v0⟩) (gq:zN O q=some ⟨false,false,7,nds true 1 pl,v1⟩) (hm:m3=pl.length) (hq:1≤q) :
  zI 1 (some [0,3,4]) ⟨E,O,m⟩=⟨[(0,.ptr 0 0 []),(3,.ref 1 0 pl.length),(4,.int .i64 k)],[(0,⟨true,false,2,[kW c a],0⟩),(1,⟨false,false,7,nds true 1 pl,0⟩)],2⟩:=by
 subst hm
 have hids:zGe 1 (vH [0,3,4] E) O=[q]:=by
  simp[zGe,vH,h0,h3,h4,V.mention,xF,g0,gq,zNt,zLn,V.mentionL,hq]
 have r0:zDd 1 [q] 0=some 0:=by simp[zDd]
 have rq:zDd 1 [q] q=some 1:=by simp[zDd,zJl];omega
 have i0:∀o,zDd 1 [q] o=some 0→o=0:=by
  intro o ho
  simp only[zDd,zJl] at ho
  split at ho
  ·cases ho;rfl
  ·split at ho<;>simp at ho
 have i1:∀o,zDd 1 [q] o=some 1→o=q:=by
  intro o ho
  simp only[zDd,zJl] at ho
  split at ho
  ·cases ho;omega
  ·split at ho
   ·rename_i h;exact h.symm
   ·cases ho
 have e0:=zAe (vr:=zQw O) r0 i0 g0
 have e1:=zAe (vr:=zQw O) rq i1 gq
 simp only[zI,hids,List.length_singleton,zAd,e0,e1,Option.elim_some,Nat.reduceAdd]
 simp[vH,h0,h3,h4,V.ren,r0,rq,zWv,V.renL,show ¬q=0 by omega]
end Go.Proofs.YtbcgenkegnmkhaaGreat.Ev
namespace Go.Proofs.YtbcgenkegnmkhaaGreat.Ev
open Go
set_option maxRecDepth 100000
set_option linter.unusedSimpArgs false
set_option linter.unusedVariables false
set_option maxHeartbeats 2000000
theorem zRx (c:List Int) (hc:okS c):∀x:Nat×Nat×(List Nd),(x.1<10∧x.2.1+25 * x.1<600000000∧rightP x.2.2)→∀s,zI 1 (some [0,3,4]) s=⟨[(0,.ptr 0 0 []),(3,.ref 1 0 x.2.2.length),(4,.int .i64 x.1)],[(0,⟨true,false,2,[kW c x.2.1],0⟩),(1,⟨false,false,7,nds true 1 x.2.2,0⟩)],2⟩ →
 ∃r,oc.loop 186 5 s=some r∧(∃(pl':List Nd) (a':Nat),r=(.exit 0,⟨[(3,.ref 1 0 pl'.length)],[(0,⟨true,false,2,[kW c a'],0⟩),(1,⟨false,false,7,nds true 1 pl',0⟩)],2⟩)∧rightP pl'∧a'≤x.2.1+25 * x.1):=by
 refine zUo (σ:=Nat×Nat×(List Nd)) (fun x=>x.1) _ (fun x=>⟨[(0,.ptr 0 0 []),(3,.ref 1 0 x.2.2.length),(4,.int .i64 x.1)],[(0,⟨true,false,2,[kW c x.2.1],0⟩),(1,⟨false,false,7,nds true 1 x.2.2,0⟩)],2⟩) (fun x r=>∃(pl':List Nd) (a':Nat),r=(.exit 0,⟨[(3,.ref 1 0 pl'.length)],[(0,⟨true,false,2,[kW c a'],0⟩),(1,⟨false,false,7,nds true 1 pl',0⟩)],2⟩)∧rightP pl'∧a'≤x.2.1+25 * x.1) ?_
 rintro⟨k,a,pl⟩ hi ih s hs
 simp only at hi
 refine zZw (Q:=fun r=>∃(pl':List Nd) (a':Nat),r=(.exit 0,⟨[(3,.ref 1 0 pl'.length)],[(0,⟨true,false,2,[kW c a'],0⟩),(1,⟨false,false,7,nds true 1 pl',0⟩)],2⟩)∧rightP pl'∧a'≤a+25 * k) qJ4 rfl rfl hs ?_
 obtain⟨hi1,hi2,hi3⟩:=hi
 have hi3':=hi3
 obtain⟨r1,r2,r3,r4⟩:=hi3'
 have hok:=hi3.ok
 obtain⟨hg1,hg2,hg3,hg4⟩:=zC0 hok r4
 obtain⟨N,hN⟩:∃N,pl.length=N:=⟨_,rfl⟩
 have hn0:=jF c a 11 hc (by omega) (by omega)
 have hop0:=vG (c:=c) (a:=a) (n:=11) (by omega)
 obtain⟨op,hop⟩:∃op:Nat,zB8 c a 11=(op:Int):=⟨(zB8 c a 11).toNat,by omega⟩
 rw[hop] at hn0 hop0
 obtain⟨q1,q2⟩:=vG (c:=c) (a:=a+1) (n:=pl.length) (by omega)
 obtain⟨A,hA⟩:∃A:Nat,zB8 c (a+1) pl.length=(A:Int):=⟨(zB8 c (a+1) pl.length).toNat,by omega⟩
 have hAl:A<(yS pl).length:=by omega
 have hw:=zAy pl (yS pl) (by omega) hg1 A (by omega) (by omega)
 have hw2:=hg3 A (by omega)
 obtain⟨w,hww⟩:∃w:Nat,at0 (yS pl) (A:Int)=(w:Int):=⟨(at0 (yS pl) (A:Int)).toNat,by omega⟩
 rw[hww] at hw hw2
 obtain⟨q3,q4⟩:=vG (c:=c) (a:=a+2) (n:=3) (by omega)
 obtain⟨j,hj⟩:∃j:Nat,zB8 c (a+2) 3=(j:Int):=⟨(zB8 c (a+2) 3).toNat,by omega⟩
 have hnx:=jF c (a+1) pl.length hc (by omega) (by omega)
 rw[hA] at hnx
 have hnj:=jF c (a+2) 3 hc (by omega) (by omega)
 rw[hj] at hnj
 have hll:=yP (o:=1) (ver:=0) (xs:=nds true 1 pl) (i:=0)
 have hlast:∀y:V,(kD 1 0 0 (nds true 1 pl)++[y])[pl.length]? = some y:=fun y=>by rw[List.getElem?_append_right (by rw[hll];simp)];simp[hll]
 have hwl:IntKind.i64.wrap ((pl.length:Int)+1 - 1)=(pl.length:Int):=by rw[qH (by omega) (by omega)];omega
 have hstep:∀{E:List (Nat×V)} {O:List (Nat×Ob)} {m q m3 v0 v1 a' k':Nat} {pl':List Nd},zN E 0=some (.ptr 0 0 [])→zN E 3=some (.ref q 0 m3)→zN E 4=some (.int .i64 (k':Nat))→zN O 0=some ⟨true,false,2,[kW c a'],v0⟩→zN O q=some ⟨false,false,7,nds true 1 pl',v1⟩→1≤q→m3=pl'.length→k'+1=k→rightP pl'→a'≤a+25→a+25 * k<600000000→∃r,oc.loop 186 5 ⟨E,O,m⟩=some r∧∃(pl':List Nd) (a':Nat),r=(.exit 0,⟨[(3,.ref 1 0 pl'.length)],[(0,⟨true,false,2,[kW c a'],0⟩),(1,⟨false,false,7,nds true 1 pl',0⟩)],2⟩)∧rightP pl'∧a'≤a+25 * k:=(by intro E O m q m3 v0 v1 a' k' pl' h0 h3 h4 g0 gq hq hm hk hr ha hb;exact(ih (k',a',pl') ⟨by simp only;omega,by simp only;omega,hr⟩ (by simp only;omega) _ (zF4 h0 h3 h4 g0 gq hm hq)).imp (fun r h=>⟨h.1,let ⟨x,y,e,h1,h2⟩:=h.2;⟨x,y,e,h1,by simp only at h2;omega⟩⟩))
 have hwl2:IntKind.i64.wrap (pl.length:Int)=(pl.length:Int):=qH (by omega) (by omega)
 have hnk:=jF c (a+2) pl.length hc (by omega) (by omega)
 refine wa_ (wa_ (zB (w_ (m_ (h:=w_ (b_ (h:=w_ (m_ (h:=?_)))))))))
 refine gw_ (h1:=?_) (h2:=?_)
 rotate_right 1
 focus
  intro c1
  first
  | exact dn c1
  | (
   have d1:=c1;try simp at d1
   refine go_ (h:=go_ (h:=go_ (h:=?_)))
   )
 rotate_right 1
 focus
  intro c1
  first
  | exact dn c1
  | (
   have d1:=c1;try simp at d1
   refine g_ (h:=w_ (m_ (h:=g_ (h:=w_ (le (h:=g_ (h:=w_ (b_ (h:=?_)))))))))
   )
 all_goals
  refine w_ (pk (h:=zC (e_ (h:=?_))))
 all_goals first
 | (
  refine zA ?_
  refine c_ (h1:=?_) (h2:=?_)
  rotate_right 1
  focus
   intro c2
   first
   | exact dn c2
   | (
    have d2:=c2;try simp at d2
    refine zX (?_)
    )
  rotate_right 1
  focus
   intro c2
   first
   | exact dn c2
   | (
    have d2:=c2;try simp at d2
    refine zD (?_)
    )
  )
 all_goals first
 | refine zS ?_
 | (
  refine zA ?_
  refine wa_ (zG (wa_ (zLr (h:=wA (oA (h:=bs (h:=wA (oA (h:=m_ (h:=wA (?_)))))))))))
  refine qG7 (h:=?_)
  refine wA (oA (h:=m_ (h:=wA (oA (h:=m_ (h:=?_))))))
  refine iA zS1 rfl (h:=?_)
  refine wa_ (zB (w_ (al (h:=zC (e_ (h:=zA (wa_ (zB (w_ (m_ (h:=w_ (le (h:=w_ (a_ (h:=zC (e_ (h:=zA (?_))))))))))))))))))
  refine wa_ (zB (w_ (m_ (h:=w_ (cP (hc:=hn0) (h:=w_ (b_ (h:=w_ (m_ (h:=w_ (m_ (h:=w_ (cP (hc:=hnx) (h:=w_ (bd (h:=w_ (al (h:=w0 (s_ (h:=zC (e_ (h:=?_))))))))))))))))))))))
  refine zA (wa_ (zB (w_ (m_ (h:=w_ (f_ (h:=w_ (l_ (h:=w_ (ca (hc:=hw) (h:=w_ (a_ (h:=zC (e_ (h:=zA (wa_ (wa_ (?_))))))))))))))))))
  refine zB (w_ (f_ (h:=w_ (l_ (h:=zC (e_ (h:=zA (zG (wa_ (zB (w_ (bE (h:=w_ (a_ (h:=zC (e_ (h:=zA (?_))))))))))))))))))
  refine c_ (h1:=?_) (h2:=?_)
  rotate_right 1
  focus
   intro c3
   first
   | exact dn c3
   | (
    have d3:=c3;try simp at d3
    refine wa_ (zB (w_ (bE (h:=w_ (a_ (h:=zC (e_ (h:=zA (?_)))))))))
    refine c_ (h1:=?_) (h2:=?_)
    rotate_right 1
    focus
     intro c4
     first
     | exact dn c4
     | (
      have d4:=c4;try simp at d4
      refine wa_ (zB (w_ (bE (h:=w_ (a_ (h:=zC (e_ (h:=zA (?_)))))))))
      refine c_ (h1:=?_) (h2:=?_)
      rotate_right 1
      focus
       intro c5
       first
       | exact dn c5
       | (
        have d5:=c5;try simp at d5
        refine wa_ (zB (w_ (bE (h:=w_ (a_ (h:=zC (e_ (h:=zA (?_)))))))))
        refine c_ (h1:=?_) (h2:=?_)
        rotate_right 1
        focus
         intro c6
         first
         | exact dn c6
         | (
          have d6:=c6;try simp at d6
          refine wa_ (zB (w_ (bE (h:=w_ (a_ (h:=zC (e_ (h:=zA (?_)))))))))
          refine c_ (h1:=?_) (h2:=?_)
          rotate_right 1
          focus
           intro c7
           first
           | exact dn c7
           | (
            have d7:=c7;try simp at d7
            refine wa_ (wa_ (zB (w_ (bE (h:=w_ (a_ (h:=zC (e_ (h:=zA (?_))))))))))
            refine c_ (h1:=?_) (h2:=?_)
            rotate_right 1
            focus
             intro c8
             first
             | exact dn c8
             | (
              have d8:=c8;try simp at d8
              refine wa_ (zB (w_ (bE (h:=w_ (a_ (h:=zC (e_ (h:=zA (?_)))))))))
              refine c_ (h1:=?_) (h2:=?_)
              rotate_right 1
              focus
               intro c9
               first
               | exact dn c9
               | (
                have d9:=c9;try simp at d9
                refine zB (w_ (bE (h:=w_ (a_ (h:=zC (e_ (h:=?_)))))))
                )
              rotate_right 1
              focus
               intro c9
               first
               | exact dn c9
               | (
                have d9:=c9;try simp at d9
                refine zD (?_)
                )
              )
            rotate_right 1
            focus
             intro c8
             first
             | exact dn c8
             | (
              have d8:=c8;try simp at d8
              refine zD (?_)
              )
            all_goals first
            | (
             refine zA ?_
             refine c_ (h1:=?_) (h2:=?_)
             rotate_right 1
             focus
              intro c10
              first
              | exact dn c10
              | (
               have d10:=c10;try simp at d10
               refine zD (?_)
               )
             rotate_right 1
             focus
              intro c10
              first
              | exact dn c10
              | (
               have d10:=c10;try simp at d10
               refine zB (w_ (m_ (h:=w_ (m_ (h:=w_ (cP (hc:=jF c (a+2) w hc (by omega) (by omega)) (h:=w_ (f_ (h:=w0 (s_ (h:=zC (e_ (h:=?_)))))))))))))
               )
             )
            )
          rotate_right 1
          focus
           intro c7
           first
           | exact dn c7
           | (
            have d7:=c7;try simp at d7
            refine zB (w_ (m_ (h:=w_ (m_ (h:=w_ (?_))))))
            refine b_ (hv:=zBo (c:=(w:Int)+1) rfl (by omega) (by omega)) (h:=?_)
            refine w_ (cP (hc:=jF c (a+2) ((w:Int)+1) hc (by omega) (by omega)) (h:=w_ (f_ (h:=w0 (s_ (h:=zC (e_ (h:=?_))))))))
            )
          )
        rotate_right 1
        focus
         intro c6
         first
         | exact dn c6
         | (
          have d6:=c6;try simp at d6
          refine wa_ (zB (w_ (m_ (h:=w_ (m_ (h:=w_ (cP (hc:=hnk) (h:=w_ (f_ (h:=w0 (s_ (h:=zC (e_ (h:=zA (zB (w_ (m_ (h:=w_ (m_ (h:=?_))))))))))))))))))))
          refine w_ (cP (hc:=jF c (a+3) w hc (by omega) (by omega)) (h:=w_ (b_ (h:=w_ (f_ (h:=w0 (s_ (h:=zC (e_ (h:=?_))))))))))
          )
        )
      rotate_right 1
      focus
       intro c5
       first
       | exact dn c5
       | (
        have d5:=c5;try simp at d5
        refine zB (w_ (m_ (h:=w_ (m_ (h:=w_ (cP (hc:=hnk) (h:=w_ (f_ (h:=w0 (s_ (h:=zC (e_ (h:=?_)))))))))))))
        )
      )
    rotate_right 1
    focus
     intro c4
     first
     | exact dn c4
     | (
      have d4:=c4;try simp at d4
      refine wa_ (zB (w_ (m_ (h:=w_ (cP (hc:=hnj) (h:=w_ (?_)))))))
      refine b_ (hv:=zBo (c:=((j+1:Nat):Int)) (by omega) (by omega) (by omega)) (h:=?_)
      refine w_ (a_ (h:=zC (e_ (h:=zA (zG (?_))))))
      refine uL zS1 rfl rfl ?_
      refine wa_ (wa_ (zB (w_ (m_ (h:=w_ (b_ (h:=zC (e_ (h:=zA (?_))))))))))
      refine c_ (h1:=?_) (h2:=?_)
      rotate_right 1
      focus
       intro c11
       first
       | exact dn c11
       | (
        have d11:=c11;try simp at d11
        exfalso;simp at c11;omega
        )
      rotate_right 1
      focus
       intro c11
       first
       | exact dn c11
       | (
        have d11:=c11;try simp at d11
        refine zD (?_)
        )
      all_goals first
      | refine zS ?_
      | (
       refine zA ?_
       refine wa_ (zG (qE (y_ (f_ (h:=ax_ (h:=y_ (l_ (h:=ax_ (h:=y_ (m_ (h:=ax_ (h:=y_ (m_ (h:=ax_ (h:=?_)))))))))))))))
       first|refine y_ (cP (hc:=jF c (a+3) w hc (by omega) (by omega)) (h:=?_))|refine y_ (cP (hc:=jF c (a+3+1) w hc (by omega) (by omega)) (h:=?_))|refine y_ (cP (hc:=jF c (a+3+1+1) w hc (by omega) (by omega)) (h:=?_))
       refine ax_ (h:=y_ (bs (h:=ax_ (h:=y_ (ap (h:=ax_ (h:=y_ (f_ (h:=ax_ (h:=y0 (s_ (h:=ax_ (h:=zC (ed (h:=zJ (zA (zB (w_ (m_ (h:=w_ (?_)))))))))))))))))))))
       refine b_ (hv:=zIh rfl (by omega) (by omega)) (h:=?_)
       refine w_ (a_ (h:=zC (e_ (h:=?_))))
       )
      all_goals first
      | refine uX ?_
      | (
       refine uN ?_
       refine uL zS1 rfl rfl ?_
       refine wa_ (wa_ (zB (w_ (m_ (h:=w_ (b_ (h:=zC (e_ (h:=zA (?_))))))))))
       refine c_ (h1:=?_) (h2:=?_)
       rotate_right 1
       focus
        intro c12
        first
        | exact dn c12
        | (
         have d12:=c12;try simp at d12
         refine zX (?_)
         )
       rotate_right 1
       focus
        intro c12
        first
        | exact dn c12
        | (
         have d12:=c12;try simp at d12
         refine zD (?_)
         )
       all_goals first
       | refine zS ?_
       | (
        refine zA ?_
        refine wa_ (zG (qE (y_ (f_ (h:=ax_ (h:=y_ (l_ (h:=ax_ (h:=y_ (m_ (h:=ax_ (h:=y_ (m_ (h:=ax_ (h:=?_)))))))))))))))
        first|refine y_ (cP (hc:=jF c (a+3) w hc (by omega) (by omega)) (h:=?_))|refine y_ (cP (hc:=jF c (a+3+1) w hc (by omega) (by omega)) (h:=?_))|refine y_ (cP (hc:=jF c (a+3+1+1) w hc (by omega) (by omega)) (h:=?_))
        refine ax_ (h:=y_ (bs (h:=ax_ (h:=y_ (ap (h:=ax_ (h:=y_ (f_ (h:=ax_ (h:=y0 (s_ (h:=ax_ (h:=zC (ed (h:=zJ (zA (zB (w_ (m_ (h:=w_ (?_)))))))))))))))))))))
        refine b_ (hv:=zIh rfl (by omega) (by omega)) (h:=?_)
        refine w_ (a_ (h:=zC (e_ (h:=?_))))
        )
       all_goals first
       | refine uX ?_
       | (
        refine uN ?_
        refine uL zS1 rfl rfl ?_
        refine wa_ (wa_ (zB (w_ (m_ (h:=w_ (b_ (h:=zC (e_ (h:=zA (?_))))))))))
        refine c_ (h1:=?_) (h2:=?_)
        rotate_right 1
        focus
         intro c13
         first
         | exact dn c13
         | (
          have d13:=c13;try simp at d13
          refine zX (?_)
          )
        rotate_right 1
        focus
         intro c13
         first
         | exact dn c13
         | (
          have d13:=c13;try simp at d13
          refine zD (?_)
          )
        all_goals first
        | refine zS ?_
        | (
         refine zA ?_
         refine wa_ (zG (qE (y_ (f_ (h:=ax_ (h:=y_ (l_ (h:=ax_ (h:=y_ (m_ (h:=ax_ (h:=y_ (m_ (h:=ax_ (h:=?_)))))))))))))))
         first|refine y_ (cP (hc:=jF c (a+3) w hc (by omega) (by omega)) (h:=?_))|refine y_ (cP (hc:=jF c (a+3+1) w hc (by omega) (by omega)) (h:=?_))|refine y_ (cP (hc:=jF c (a+3+1+1) w hc (by omega) (by omega)) (h:=?_))
         refine ax_ (h:=y_ (bs (h:=ax_ (h:=y_ (ap (h:=ax_ (h:=y_ (f_ (h:=ax_ (h:=y0 (s_ (h:=ax_ (h:=zC (ed (h:=zJ (zA (zB (w_ (m_ (h:=w_ (?_)))))))))))))))))))))
         refine b_ (hv:=zIh rfl (by omega) (by omega)) (h:=?_)
         refine w_ (a_ (h:=zC (e_ (h:=?_))))
         )
        all_goals first
        | refine uX ?_
        | (
         refine uN ?_
         refine uL zS1 rfl rfl ?_
         refine wa_ (wa_ (zB (w_ (m_ (h:=w_ (b_ (h:=zC (e_ (h:=zA (?_))))))))))
         refine c_ (h1:=?_) (h2:=?_)
         rotate_right 1
         focus
          intro c14
          first
          | exact dn c14
          | (
           have d14:=c14;try simp at d14
           refine zX (?_)
           )
         rotate_right 1
         focus
          intro c14
          first
          | exact dn c14
          | (
           have d14:=c14;try simp at d14
           exfalso;simp at c14;omega
           )
         all_goals first
         | refine zS ?_
         | (
          refine zA ?_
          refine wa_ (zG (qE (y_ (f_ (h:=ax_ (h:=y_ (l_ (h:=ax_ (h:=y_ (m_ (h:=ax_ (h:=y_ (m_ (h:=ax_ (h:=?_)))))))))))))))
          first|refine y_ (cP (hc:=jF c (a+3) w hc (by omega) (by omega)) (h:=?_))|refine y_ (cP (hc:=jF c (a+3+1) w hc (by omega) (by omega)) (h:=?_))|refine y_ (cP (hc:=jF c (a+3+1+1) w hc (by omega) (by omega)) (h:=?_))
          refine ax_ (h:=y_ (bs (h:=ax_ (h:=y_ (ap (h:=ax_ (h:=y_ (f_ (h:=ax_ (h:=y0 (s_ (h:=ax_ (h:=zC (ed (h:=zJ (zA (zB (w_ (m_ (h:=w_ (?_)))))))))))))))))))))
          refine b_ (hv:=zIh rfl (by omega) (by omega)) (h:=?_)
          refine w_ (a_ (h:=zC (e_ (h:=?_))))
          )
         all_goals first
         | refine uX ?_
         )
        )
       )
      all_goals refine zT ?_
      )
    )
  rotate_right 1
  focus
   intro c3
   first
   | exact dn c3
   | (
    have d3:=c3;try simp at d3
    refine wa_ (zB (w_ (m_ (h:=w_ (m_ (h:=w_ (cP (hc:=jF c (a+2) w hc (by omega) (by omega)) (h:=w_ (f_ (h:=w0 (s_ (h:=zC (e_ (h:=zA (wa_ (zB (w_ (m_ (h:=?_)))))))))))))))))))
    refine w_ (cP (hc:=jF c (a+3) 3 hc (by omega) (by omega)) (h:=w_ (f_ (h:=w0 (s_ (h:=zC (e_ (h:=zA (zB (w_ (m_ (h:=w_ (cP (hc:=jF c (a+4) 4 hc (by omega) (by omega)) (h:=w_ (f_ (h:=w0 (s_ (h:=zC (e_ (h:=?_))))))))))))))))))))
    )
  all_goals refine zJ ?_
  all_goals first
  | (
   refine zA ?_
   refine wa_ (zB (w_ (l_ (h:=w0 (s_ (h:=zC (e_ (h:=zA (zH (?_))))))))))
   )
  all_goals (refine⟨by simp,_,(vA (tys_ok.zero _ _ rfl) rfl (by simp;rfl) (by rfl) zO),by simp,?_⟩)
  all_goals
   refine wA (oA (h:=bs (h:=wA (?_))))
   first|refine zNr (ys:=[Nd.v true 1 ⟨_,_,_,_,_,_,[]⟩]) (m3:=pl.length+1) (hm:=by rw[hll];simp) (hm3:=by simp[hll]) (h:=?_)|refine zNr (ys:=[Nd.v true 1 ⟨_,_,_,_,_,_,[_]⟩]) (m3:=pl.length+1) (hm:=by rw[hll];simp) (hm3:=by simp[hll]) (h:=?_)|refine zNr (ys:=[Nd.v true 1 ⟨_,_,_,_,_,_,[_,_]⟩]) (m3:=pl.length+1) (hm:=by rw[hll];simp) (hm3:=by simp[hll]) (h:=?_)|refine zNr (ys:=[Nd.v true 1 ⟨_,_,_,_,_,_,[_,_,_]⟩]) (m3:=pl.length+1) (hm:=by rw[hll];simp) (hm3:=by simp[hll]) (h:=?_)
   refine wA (oA (h:=a_ (h:=nA (h:=?_))))
  all_goals first
  | (
   refine zA ?_
   refine wa_ (zLr (h:=wA (oA (h:=m_ (h:=wA (oA (h:=m_ (h:=wA (oA (h:=le (h:=wA (oA (h:=b_ (h:=wA (?_)))))))))))))))
   refine kA_ix (j:=pl.length) (ha:=by first|(simp[hwl];done)|(simp[hwl2];done)) (hj:=by simp) (hy:=hlast _) (hc:=by rfl) (h:=?_)
   refine wA (?_)
   refine oA (h:=f_ (h1:=zE3 rfl rfl (hlast _) rfl (vL tys_ok (Y:=tys) rfl) ⟨rfl,rfl⟩) (h:=?_))
   refine wA (?_)
   refine oA (h:=l_ (h1:=zUx (tys_ok.zero _ _ rfl) rfl rfl (hlast _) rfl (by simp) rfl rfl ⟨rfl,rfl⟩) (h:=?_))
   refine wA (oA (h:=bE (h:=wA (oA (h:=m_ (h:=?_))))))
   refine gwA (h1:=?_) (h2:=?_)
   rotate_right 1
   focus
    intro c15
    first
    | exact dn c15
    | (
     have d15:=c15;try simp at d15
     refine goA (h:=goA (h:=goA (h:=?_)))
     )
   rotate_right 1
   focus
    intro c15
    first
    | exact dn c15
    | (
     have d15:=c15;try simp at d15
     refine gA (h:=wA (oA (h:=m_ (h:=gA (h:=wA (?_))))))
     refine qAc (hm:=by simp[hll]) (hs:=zW6 (by rfl)) (hc:=zSk (pl++[_]) (by simp;omega) (by intro d hd;rcases List.mem_append.1 hd with hd|hd;exact hok d hd;(simp at hd;subst hd;simp))) (h:=?_)
     refine gA (h:=wA (oA (h:=bE (h:=?_))))
     )
   all_goals
    refine wA (oA (h:=pk (h:=nA (h:=?_))))
   all_goals first
   | (
    refine zA ?_
    refine c_ (h1:=?_) (h2:=?_)
    rotate_right 1
    focus
     intro c16
     first
     | exact dn c16
     | (
      have d16:=c16;try simp at d16
      refine zD (?_)
      )
    rotate_right 1
    focus
     intro c16
     first
     | exact dn c16
     | (
      have d16:=c16;try simp at d16
      refine zLr (h:=wA (?_))
      refine kA_un (h:=?_);intro L hL
      refine wA (oA (h:=a_ (h:=nA (h:=?_))))
      )
    )
   )
  all_goals refine zJ ?_
  all_goals first
  | (
   refine zA ?_
   refine zB (w_ (m_ (h:=w_ (?_))))
   refine b_ (hv:=jT (c:=k - 1) (by omega) (by omega)) (h:=?_)
   refine w_ (a_ (h:=zC (e_ (h:=?_))))
   )
  )
 all_goals first
 | ((refine⟨pl,a,?_,hi3,by omega⟩;refine congrArg (Prod.mk _) ?_;show zI 1 (some [3]) _=_;simp[zI]))
 | (exact hstep rfl rfl rfl rfl rfl (by first|decide|(simp;done)|(simp;omega)) rfl (by simp at *;omega) hi3 (by omega) (by omega))
 | (exact hstep rfl rfl rfl ((zRd hL (by decide)).trans rfl) rfl (by first|decide|(simp;done)|(simp;omega)) (by simp) (by simp at *;omega) (zPf hi3 (by simp at *;omega) (by simp) (by simp at *;assumption)) (by omega) (by omega))
section
variable {call : Call} {id base : Nat} {e : List (Nat × V)} {o : List (Nat × Ob)} {n : Nat} {t : TypeId} {K : V→List (Nat × Ob)→Prop}
theorem apP {args:Array Operand} {ts:Array TypeId} {t1 t2 e1 e2:TypeId} {y z:V} {ys ws bs:List V} {r1:Option (List V×St)} {sz:Nat} {o1:List (Nat×Ob)} {id' q j ver m m2:Nat} {fs:List Nat} {ob:Ob} {x xu:V} (hx:jX e args.toList=some [.plc q j fs ver m,y]:=by exact rfl) (h1:ts[0]? = some t1:=by exact rfl) (h2:ts[1]? = some t2:=by exact rfl) (he1:cf.elem t1=some e1:=by exact tys_ok.elem _ _ rfl) (hz:cf.zero e1=some z:=by exact tys_ok.zero _ _ rfl) (he2:cf.elem t2=some e2:=by exact tys_ok.elem _ _ rfl)
  (hel:St.elems ⟨[],o,n⟩ base y=r1:=by(simp;rfl)) (hel2:r1=some (ys,⟨[],o1,n⟩):=by rfl) (ho:zN o1 q=some ob:=by exact rfl) (hv:ob.ver=ver:=by rfl) (hg:ob.xs[j]? = some x:=by first|assumption|exact zHn (by assumption)) (hgf:jR x fs=some (.lst true sz bs):=by exact rfl) (hl:bs.length=m:=by first|rfl|simp) (hsu:zBz x fs .und=some xu:=by exact rfl)
  (hid:id=id':=by((try simp);rfl)) (hsz:sz=z.cells:=by rfl) (hc:V.cellsAll z.cells ys=true:=by(simp[*];try rfl)) (hw:bs++ys=ws:=by((try simp);rfl)) (hm:ws.length=m2:=by((try simp);rfl)) (hlen:m2<zBd:=by(simp<;>omega))
  (h:K (.ref id' 0 m2) ((id',⟨false,false,z.cells,ws,0⟩)::(q,⟨ob.bx,ob.fx,ob.sz,ob.xs.set j xu,ver+1⟩)::o1)):opK call cf id base e o n t (.call ⟨.builtin .append,args,ts⟩) K:=by
 subst hl hv
 have hget:ob.get j fs=some (.lst true sz bs):=by simp only[Ob.get,hg,hgf]
 have hset:ob.set j fs .und=some { ob with xs:=ob.xs.set j xu }:=by simp only[Ob.set,hg,hsu,zK]
 have hat:St.at ⟨[],o1,n⟩ q j fs ob.ver bs.length=some (sz,bs,ob):=by simp only[St.at,ho,hget,if_true]
 have htk:St.take ⟨[],o1,n⟩ q j fs ob.ver bs.length=some (sz,bs,⟨[],(q,⟨ob.bx,ob.fx,ob.sz,ob.xs.set j xu,ob.ver+1⟩)::o1,n⟩):=by simp only[St.take,hat,hset,zK,yH]
 exact zKo hx h1 h2 he1 hz he2 hel hel2 htk rfl hid hsz hc hw hm hlen h
end
end Go.Proofs.YtbcgenkegnmkhaaGreat.Ev
namespace Go.Proofs.YtbcgenkegnmkhaaGreat.Ev
open Go
set_option maxRecDepth 100000
set_option linter.unusedSimpArgs false
set_option linter.unusedVariables false
set_option maxHeartbeats 2000000
theorem qFh {Q:V×List V→Prop} {f:FuncId} {fn:Func} {body:Code} {args:List V} {e:List (Nat×V)} {o:List (Nat×Ob)} {n:Nat} (hf:cf.code f=some fn) (hb:fn.body=some body) (hl:args.length=n) (hl2:n=fn.params.size+fn.nfree) (he:(zQ 0 args).1=e) (ho:(zQ 0 args).2=o)
  (h:wpC oc cf f body ⟨e,o,n⟩ (fun e s=>(e = .normal∨e = .ret)∧∃vs,zE0 cf s fn.results.toList=some vs∧∃r,V.fzL vs ⟨[],s.obs,s.nxt⟩=r∧∃q,r=some q∧∃os,yT 0 args q.2=some os∧Q (zEg q.1,os))):∃r,zA6 oc cf f args=some r∧Q r:=by
 obtain⟨r,h1,h2,vs,h3,q,h4,u,h5,os,h6,h7⟩:=h
 exact⟨_,zGq hf hb hl hl2 he ho ⟨r,h1,h2,vs,h3,q,h4,u,h5,os,h6,rfl⟩,h7⟩
theorem qI6 {v:Int} (h:v=1∨v=2):rightP [⟨1,0,0,v,0,0,[]⟩]:=by
 refine⟨by simp,by simp,by simp,?_⟩
 rcases h with rfl|rfl<;>rfl
theorem qKp {v u:Int} (h:v=1∨v=2) (h2:u=1∨u=2):rightP [⟨1,0,0,v,0,0,[]⟩,⟨1,0,0,u,0,0,[]⟩]:=by
 refine⟨by simp,by simp,by simp,?_⟩
 rcases h with rfl|rfl<;>rcases h2 with rfl|rfl<;>rfl
def planP (l:List Nd):Prop:=l.length≤9∧∀d∈l,d.cells.length≤4
theorem planP.ok {l:List Nd} (h:planP l):okN l:=fun d hd=>by have:=h.2 d hd;omega
theorem qAh (c:List Int) (a:Nat) (hc:okS c) (ha:a<500000000):∃r,oc.call 186 [.iop (kW c a)]=some r∧(∃(pl:List Nd) (a':Nat),r=(.lst true 7 (nds true 1 pl),[kW c a'])∧1≤pl.length∧pl.length≤8∧(∀d∈pl,d.cells.length≤3)∧a'≤a+300):=by
 refine zT8 (Q:=fun r=>∃(pl:List Nd) (a':Nat),r=(.lst true 7 (nds true 1 pl),[kW c a'])∧1≤pl.length∧pl.length≤8∧(∀d∈pl,d.cells.length≤3)∧a'≤a+300) rfl qJ4 rfl rfl rfl (by simp;rfl) (by simp;rfl) ?_
 have x1:=vG (c:=c) (a:=a) (n:=2) (by omega)
 obtain⟨v1,hv1⟩:∃v:Int,1+zB8 c a 2=v:=⟨_,rfl⟩
 have x2:=vG (c:=c) (a:=a+2) (n:=2) (by omega)
 obtain⟨v2,hv2⟩:∃v:Int,1+zB8 c (a+2) 2=v:=⟨_,rfl⟩
 have x3:=vG (c:=c) (a:=a+2) (n:=6) (by omega)
 have x4:=vG (c:=c) (a:=a+3) (n:=6) (by omega)
 obtain⟨k1,hk1⟩:∃k:Nat,zB8 c (a+2) 6=(k:Int):=⟨(zB8 c (a+2) 6).toNat,by omega⟩
 obtain⟨k2,hk2⟩:∃k:Nat,zB8 c (a+3) 6=(k:Int):=⟨(zB8 c (a+3) 6).toNat,by omega⟩
 have hn1:=jF c (a+2) 6 hc (by omega) (by omega)
 have hn2:=jF c (a+3) 6 hc (by omega) (by omega)
 rw[hk1] at hn1
 rw[hk2] at hn2
 refine wa_ (zB (w_ (aN (h:=zC (e_ (h:=zA (wa_ (zB (w_ (m_ (h:=w_ (cP (hc:=jF c a 2 hc (by omega) (by omega)) (h:=w_ (?_))))))))))))))
 refine b_ (hv:=zBo hv1 (by omega) (by omega)) (h:=?_)
 refine w_ (bd (h:=w_ (bs (h:=w_ (a_ (h:=zC (e_ (h:=zA (wa_ (wa_ (zB (w_ (m_ (h:=w_ (cP (hc:=zWu c (a+1) 2 hc (by omega) (by omega)) (h:=zC (e_ (h:=zA (?_)))))))))))))))))))
 refine c_ (h1:=?_) (h2:=?_)
 rotate_right 1
 focus
  intro c1
  refine zD (?_)
 rotate_right 1
 focus
  intro c1
  refine zB (w_ (m_ (h:=w_ (m_ (h:=w_ (cP (hc:=jF c (a+2) 2 hc (by omega) (by omega)) (h:=w_ (?_))))))))
  refine b_ (hv:=zBo hv2 (by omega) (by omega)) (h:=?_)
  refine w_ (bd (h:=w_ (bs (h:=w_ (ap (h:=w_ (a_ (h:=zC (e_ (h:=?_))))))))))
 all_goals first
 | (
  refine zA ?_
  refine wa_ (wa_ (zB (w_ (m_ (h:=?_)))))
  first|refine w_ (cP (hc:=hn1) (h:=?_))|refine w_ (cP (hc:=hn2) (h:=?_))
  refine w_ (a_ (h:=zC (e_ (h:=zA (zG (?_))))))
  refine zWt (by first|exact zRx c hc (k1,a+3,[_]) ⟨by simp only;omega,by simp only;omega,qI6 (v:=v1) (by omega)⟩ _ (zF4 (by rfl) (by rfl) (by rfl) (by rfl) (by rfl) (by simp) (by first|decide|(simp;done)|(simp;omega)))|exact zRx c hc (k2,a+4,[_,_]) ⟨by simp only;omega,by simp only;omega,qKp (v:=v1) (u:=v2) (by omega) (by omega)⟩ _ (zF4 (by rfl) (by rfl) (by rfl) (by rfl) (by rfl) (by simp) (by first|decide|(simp;done)|(simp;omega)))) ?_
  rintro _ _ ⟨pl2,a2,⟨⟩,⟨g1,g2,g3,g4⟩,h2⟩
  refine zT (zA (wa_ (zB (w_ (m_ (h:=w_ (m_ (h:=w_ (le (h:=w_ (b_ (h:=w_ (bd (h:=w_ (bs (h:=w_ (ap (h:=w_ (a_ (h:=?_))))))))))))))))))))
  refine zC (e_ (h:=zA (wa_ (zB (w_ (m_ (h:=w_ (a_ (h:=zC (e_ (h:=zA (zH (?_)))))))))))))
  )
 all_goals (refine zXy (Q:=fun r=>∃(pl:List Nd) (a':Nat),r=(.lst true 7 (nds true 1 pl),[kW c a'])∧1≤pl.length∧pl.length≤8∧(∀d∈pl,d.cells.length≤3)∧a'≤a+300) (hr:=(zR rfl zO)) (h:=?_);(focus (simp at h2;refine⟨pl2++[⟨12,IntKind.i64.wrap ((pl2.length:Int) - 1),0,0,0,0,[]⟩],a2,?_,by simp,by simp;omega,?_,by omega⟩;(focus (simp;rw[List.take_of_length_le (by simp)];simp[nds,Nd.v]));(intro d hd;rcases List.mem_append.1 hd with hd|hd;(focus (exact g3 d hd));(simp at hd;subst hd;simp)))))
theorem zV8 {pl:List Nd} {i:Nat} {q:Nd} (g2:pl.length≤8) (g3:∀d∈pl,d.cells.length≤3) (hq:q.cells.length≤4):planP (pl.set i q):=⟨by simp;omega,fun x hx=>by
 rcases List.mem_or_eq_of_mem_set hx with hx|rfl
 ·have:=g3 x hx;omega
 ·exact hq⟩
theorem pick9 (c:List Int) (a:Nat):∃m:Nat,at0 [0,9] (zB8 c a ([0,9]:List Int).length)=(m:Int)∧m≤9:=by
 have:=vG (c:=c) (a:=a) (n:=(([0,9]:List Int).length:Nat)) (by simp)
 simp at this
 rcases(by omega:zB8 c a 2=0∨zB8 c a 2=1) with h|h
 ·exact⟨0,by simp[h,at0],by omega⟩
 ·exact⟨9,by simp[h,at0],by omega⟩
theorem zVn (c:List Int) (a:Nat) (hc:okS c) (ha:a<400000000):∃r,zA6 oc cf 134 [.iop (kW c a)]=some r∧(∃(pl:List Nd) (a':Nat),r=(.lst true 7 (nds true 1 pl),[kW c a'])∧planP pl∧a'≤a+400):=by
 refine qFh (Q:=fun r=>∃(pl:List Nd) (a':Nat),r=(.lst true 7 (nds true 1 pl),[kW c a'])∧planP pl∧a'≤a+400) cd134 rfl rfl rfl (by simp;rfl) (by simp;rfl) ?_
 obtain⟨_,hd,pl,a1,rfl,g1,g2,g3,ha1⟩:=qAh c a hc (by omega)
 have x1:=vG (c:=c) (a:=a1) (n:=pl.length) (by omega)
 obtain⟨i,hi⟩:∃i:Nat,zB8 c a1 pl.length=(i:Int):=⟨(zB8 c a1 pl.length).toNat,by omega⟩
 have hn1:=jF c a1 pl.length hc (by omega) (by omega)
 rw[hi] at hn1 x1
 have hil:i<pl.length:=by omega
 have hn2:=jF c (a1+1) 24 hc (by omega) (by omega)
 have hn3:=jF c (a1+2) 13 hc (by omega) (by omega)
 have hx0:=zDn (t:=true) (s:=1) (show pl[i]? = some pl[i] by simp[hil])
 obtain⟨d,hdd⟩:∃d,pl[i]=d:=⟨_,rfl⟩
 have hdm:d.cells.length≤3:=by rw[←hdd];exact g3 _ (List.getElem_mem _)
 rw[hdd] at hx0
 obtain⟨d1,d2,d3,d4,d5,d6,d7⟩:=d
 simp only at hdm
 have hset:∀q:Nd,q.cells.length≤4→planP (pl.set i q):=fun q hq=>zV8 g2 g3 hq
 have hp4:oc.call.noI.c 42 [.iop (kW c (a1+2)),.lst true 1 (ints [0,-1,4])]=some (.int .i64 (at0 [0,-1,4] (zB8 c (a1+2) (3:Nat))),[kW c (a1+2+1)]):=zCw c (a1+2) [0,-1,4] hc (by omega) (by simp) (by simp)
 have hp9:=zCw c (a1+2) [0,9] hc (by omega) (by simp) (by simp)
 obtain⟨m9,h9,h9'⟩:=pick9 c (a1+2)
 rw[h9] at hp9
 refine wa_ (zB (w_ (aN (h:=zC (e_ (h:=zA (wa_ (zB (w_ (m_ (h:=w_ (cP (hc:=hd) (h:=w_ (a_ (h:=zC (e_ (h:=zA (?_))))))))))))))))))
 refine wa_ (zB (w_ (m_ (h:=w_ (m_ (h:=w_ (le (h:=w_ (cP (hc:=hn1) (h:=w_ (a_ (h:=zC (e_ (h:=zA (wa_ (wa_ (zB (?_))))))))))))))))))
 refine w_ (m_ (h:=w_ (cP (hc:=hn2) (h:=zC (e_ (h:=zA (zG (wa_ (zB (w_ (bE (h:=w_ (a_ (h:=zC (e_ (h:=zA (?_)))))))))))))))))
 refine c_ (h1:=?_) (h2:=?_)
 rotate_right 1
 focus
  intro c1
  first
  | exact dn c1
  | (
   have d1:=c1;try simp at d1
   refine wa_ (zB (w_ (bE (h:=w_ (a_ (h:=zC (e_ (h:=zA (?_)))))))))
   refine c_ (h1:=?_) (h2:=?_)
   rotate_right 1
   focus
    intro c2
    first
    | exact dn c2
    | (
     have d2:=c2;try simp at d2
     refine wa_ (zB (w_ (bE (h:=w_ (a_ (h:=zC (e_ (h:=zA (?_)))))))))
     refine c_ (h1:=?_) (h2:=?_)
     rotate_right 1
     focus
      intro c3
      first
      | exact dn c3
      | (
       have d3:=c3;try simp at d3
       refine wa_ (zB (w_ (bE (h:=w_ (a_ (h:=zC (e_ (h:=zA (?_)))))))))
       refine c_ (h1:=?_) (h2:=?_)
       rotate_right 1
       focus
        intro c4
        first
        | exact dn c4
        | (
         have d4:=c4;try simp at d4
         refine wa_ (zB (w_ (bE (h:=w_ (a_ (h:=zC (e_ (h:=zA (?_)))))))))
         refine c_ (h1:=?_) (h2:=?_)
         rotate_right 1
         focus
          intro c5
          first
          | exact dn c5
          | (
           have d5:=c5;try simp at d5
           refine wa_ (zB (w_ (bE (h:=w_ (a_ (h:=zC (e_ (h:=zA (?_)))))))))
           refine c_ (h1:=?_) (h2:=?_)
           rotate_right 1
           focus
            intro c6
            first
            | exact dn c6
            | (
             have d6:=c6;try simp at d6
             refine wa_ (zB (w_ (bE (h:=w_ (a_ (h:=zC (e_ (h:=zA (?_)))))))))
             refine c_ (h1:=?_) (h2:=?_)
             rotate_right 1
             focus
              intro c7
              first
              | exact dn c7
              | (
               have d7:=c7;try simp at d7
               refine wa_ (zB (w_ (bE (h:=w_ (a_ (h:=zC (e_ (h:=zA (?_)))))))))
               refine c_ (h1:=?_) (h2:=?_)
               rotate_right 1
               focus
                intro c8
                first
                | exact dn c8
                | (
                 have d8:=c8;try simp at d8
                 refine wa_ (zB (w_ (bE (h:=w_ (a_ (h:=zC (e_ (h:=zA (?_)))))))))
                 refine c_ (h1:=?_) (h2:=?_)
                 rotate_right 1
                 focus
                  intro c9
                  first
                  | exact dn c9
                  | (
                   have d9:=c9;try simp at d9
                   refine zD (?_)
                   )
                 rotate_right 1
                 focus
                  intro c9
                  first
                  | exact dn c9
                  | (
                   have d9:=c9;try simp at d9
                   refine zB (w_ (m_ (h:=w_ (bs (h:=w_ (cPT (hc:=hp9) (h:=w_ (mk (h:=w_ (a_ (h:=zC (e_ (h:=?_)))))))))))))
                   )
                 )
               rotate_right 1
               focus
                intro c8
                first
                | exact dn c8
                | (
                 have d8:=c8;try simp at d8
                 refine zB (w_ (m_ (h:=w_ (m_ (h:=w_ (le (h:=w_ (b_ (h:=w_ (bd (h:=w_ (bs (h:=w_ (ap (h:=w_ (a_ (h:=zC (e_ (h:=?_)))))))))))))))))))
                 )
               )
             rotate_right 1
             focus
              intro c7
              first
              | exact dn c7
              | (
               have d7:=c7;try simp at d7
               refine zB (w_ (m_ (h:=w_ (m_ (h:=w_ (m_ (h:=w_ (bs (h:=w_ (cPT (hc:=zCw c (a1+2) [1000000000,1000000001,-1] hc (by omega) (by simp) (by simp)) (h:=w_ (x_ (h:=w_ (f_ (h:=w0 (s_ (h:=zC (e_ (h:=?_)))))))))))))))))))
               )
             )
           rotate_right 1
           focus
            intro c6
            first
            | exact dn c6
            | (
             have d6:=c6;try simp at d6
             refine zB (w_ (m_ (h:=w_ (m_ (h:=w_ (m_ (h:=w_ (bs (h:=w_ (cPT (hc:=zCw c (a1+2) [1,3] hc (by omega) (by simp) (by simp)) (h:=w_ (x_ (h:=w_ (f_ (h:=w0 (s_ (h:=zC (e_ (h:=?_)))))))))))))))))))
             )
           )
         rotate_right 1
         focus
          intro c5
          first
          | exact dn c5
          | (
           have d5:=c5;try simp at d5
           refine qE (y_ (m_ (h:=ax_ (h:=y_ (m_ (h:=ax_ (h:=y_ (m_ (h:=ax_ (h:=y_ (m_ (h:=ax_ (h:=y_ (x_ (h:=ax_ (h:=y_ (f_ (h:=ax_ (h:=y_ (l_ (h:=ax_ (h:=y_ (m_ (h:=ax_ (h:=y_ (bs (h:=ax_ (h:=y_ (cPT (hc:=hp4) (h:=ax_ (h:=y_ (bs (h:=ax_ (h:=?_))))))))))))))))))))))))))))))))))
           refine y_ (?_)
           refine apP (h:=?_)
           refine ax_ (h:=y_ (x_ (h:=ax_ (h:=y_ (f_ (h:=ax_ (h:=y0 (s_ (h:=ax_ (h:=zC (ed (h:=?_))))))))))))
           )
         )
       rotate_right 1
       focus
        intro c4
        first
        | exact dn c4
        | (
         have d4:=c4;try simp at d4
         refine zB (w_ (m_ (h:=w_ (m_ (h:=w_ (m_ (h:=w_ (bs (h:=w_ (cPT (hc:=zCw c (a1+2) [-1,0,4,3,1] hc (by omega) (by simp) (by simp)) (h:=w_ (x_ (h:=w_ (f_ (h:=w0 (s_ (h:=zC (e_ (h:=?_)))))))))))))))))))
         )
       )
     rotate_right 1
     focus
      intro c3
      first
      | exact dn c3
      | (
       have d3:=c3;try simp at d3
       refine zB (w_ (m_ (h:=w_ (m_ (h:=w_ (m_ (h:=w_ (m_ (h:=w_ (bs (h:=w_ (cPT (hc:=zCw c (a1+2) [-1,i,1] hc (by omega) (by simp) (by simp)) (h:=w_ (x_ (h:=w_ (f_ (h:=w0 (s_ (h:=zC (e_ (h:=?_)))))))))))))))))))))
       )
     )
   rotate_right 1
   focus
    intro c2
    first
    | exact dn c2
    | (
     have d2:=c2;try simp at d2
     refine zB (w_ (m_ (h:=w_ (m_ (h:=w_ (m_ (h:=w_ (m_ (h:=w_ (bs (h:=w_ (cPT (hc:=zCw c (a1+2) [-1,i,0,4611686018427387904] hc (by omega) (by simp) (by simp)) (h:=w_ (x_ (h:=w_ (f_ (h:=w0 (s_ (h:=zC (e_ (h:=?_)))))))))))))))))))))
     )
   )
 rotate_right 1
 focus
  intro c1
  first
  | exact dn c1
  | (
   have d1:=c1;try simp at d1
   refine zB (w_ (m_ (h:=w_ (m_ (h:=w_ (m_ (h:=w_ (m_ (h:=w_ (cP (hc:=hn3) (h:=w_ (bs (h:=w_ (cPT (hc:=zCw c (a1+3) [0,13,zB8 c (a1+2) 13] hc (by omega) (by simp) (by simp)) (h:=w_ (x_ (h:=w_ (f_ (h:=w0 (s_ (h:=zC (e_ (h:=?_)))))))))))))))))))))))
   )
 all_goals refine zJ ?_
 all_goals first
 | (
  refine zA ?_
  refine wa_ (zB (w_ (m_ (h:=w_ (a_ (h:=zC (e_ (h:=zA (zH (?_))))))))))
  )
 all_goals (refine zXy (Q:=fun r=>∃(pl:List Nd) (a':Nat),r=(.lst true 7 (nds true 1 pl),[kW c a'])∧planP pl∧a'≤a+400) (hr:=(zR rfl zO)) (h:=?_);(focus (first|exact⟨pl,_,rfl,⟨by omega,fun d hd=>by have:=g3 d hd;omega⟩,by omega⟩|(rw[List.take_of_length_le (by simp)];exact⟨_,_,rfl,hset _ (by first|exact Nat.le_succ_of_le hdm|(simp;omega)),by omega⟩)|exact⟨pl++[⟨5,IntKind.i64.wrap ((pl.length:Int) - 1),0,0,0,0,[]⟩],a1+1+1,by(rw[List.take_of_length_le (by simp)];simp[nds,Nd.v,zEg];done),⟨by simp;omega,fun d hd=>by(rcases List.mem_append.1 hd with hd|hd;(focus (have:=g3 d hd;omega));(simp at hd;subst hd;simp))⟩,by omega⟩|exact⟨List.replicate m9 ⟨0,0,0,0,0,0,[]⟩,a1+2+1,by(simp[nds,Nd.v,zEg];done),⟨by simp;omega,fun d hd=>by(have:=(List.mem_replicate.1 hd).2;subst this;simp)⟩,by omega⟩)))
theorem qCh (c:List Int) (a:Nat) (hc:okS c) (ha:a<400000000):∃(pl:List Nd) (a':Nat),oc.call 134 [.iop (kW c a)]=some (.lst false 0 (nds false 0 pl),[kW c a'])∧planP pl∧a'≤a+400:=by
 obtain⟨_,h,pl,a',rfl,hp,h2⟩:=zVn c a hc ha
 refine⟨pl,a',?_,hp,h2⟩
 have:=qG5 (by rfl) (by rfl) (by rfl) h
 rw[this]
 simp[V.full]
theorem l_ncS (pl:List Nd) (L:List Ct) (w q:Nat) (hp:pl.length<2000000) (hF:oc.call 67 [.lst false 0 (nds false 0 pl),.int .i64 w]=some (.lst true 3 (cts L),[])) (hw0:w≤3):∀i:Nat,(1≤i∧i≤w)→∀s,zI 2 (some [0,1,4,6,7]) s=⟨[(0,.lst false 0 (nds false 0 pl)),(1,.int .i64 w),(4,.ptr 2 0 []),(6,.ptr 3 0 []),(7,.int .i64 i)],[(2,⟨true,false,4,[clZ],0⟩),(3,⟨true,false,3,[.agg [.ref 4 0 pl.length,.ref 5 0 i,.ref 6 0 q]],0⟩),(4,⟨false,false,7,nds true 1 pl,0⟩),(5,⟨false,false,7,wks true (List.replicate i (wk0 pl L)),0⟩),(6,⟨false,false,1,kO true (List.replicate q []),0⟩)],7⟩ →
 oc.loop 18 8 s=some (.exit 0,⟨[(4,.ptr 2 0 []),(6,.ptr 3 0 [])],[(2,⟨true,false,4,[clZ],0⟩),(3,⟨true,false,3,[.agg [.ref 4 0 pl.length,.ref 5 0 w,.ref 6 0 q]],0⟩),(4,⟨false,false,7,nds true 1 pl,0⟩),(5,⟨false,false,7,wks true (List.replicate w (wk0 pl L)),0⟩),(6,⟨false,false,1,kO true (List.replicate q []),0⟩)],7⟩):=by
 refine zW (σ:=Nat) (fun i=>w - i) _ (fun i=>⟨[(0,.lst false 0 (nds false 0 pl)),(1,.int .i64 w),(4,.ptr 2 0 []),(6,.ptr 3 0 []),(7,.int .i64 i)],[(2,⟨true,false,4,[clZ],0⟩),(3,⟨true,false,3,[.agg [.ref 4 0 pl.length,.ref 5 0 i,.ref 6 0 q]],0⟩),(4,⟨false,false,7,nds true 1 pl,0⟩),(5,⟨false,false,7,wks true (List.replicate i (wk0 pl L)),0⟩),(6,⟨false,false,1,kO true (List.replicate q []),0⟩)],7⟩) _ ?_
 intro i hi ih s hs
 refine qB cd18 rfl rfl hs ?_
 obtain⟨hi1,hi2⟩:=hi
 refine wa_ (wa_ (zB (w_ (m_ (h:=w_ (m_ (h:=w_ (b_ (h:=zC (e_ (h:=zA (?_))))))))))))
 refine c_ (h1:=?_) (h2:=?_)
 rotate_right 1
 focus
  intro c1
  first
  | exact dn c1
  | (
   have d1:=c1;try simp at d1
   refine zX (?_)
   )
 rotate_right 1
 focus
  intro c1
  first
  | exact dn c1
  | (
   have d1:=c1;try simp at d1
   have hw:=zV (i:=i) (by omega)
   refine zD (?_)
   )
 all_goals first
 | refine zS ?_
 | (
  refine zA ?_
  refine wa_ (zG (qE (y_ (f_ (h:=ax_ (h:=y_ (l_ (h:=ax_ (h:=y_ (m_ (h:=ax_ (h:=y_ (m_ (h:=ax_ (h:=y_ (ca (hc:=hF) (h:=ax_ (h:=y_ (m_ (h:=ax_ (h:=y_ (le (h:=ax_ (h:=y_ (mk (h:=ax_ (h:=y_ (bd (h:=ax_ (h:=?_))))))))))))))))))))))))))))))
  refine y_ (bs (h:=ax_ (h:=y_ (ap (h:=ax_ (h:=y_ (f_ (h:=ax_ (h:=y0 (s_ (h:=ax_ (h:=zC (ed (h:=zJ (zA (zB (w_ (m_ (h:=w_ (b_ (h:=w_ (a_ (h:=zC (e_ (h:=?_)))))))))))))))))))))))))
  )
 all_goals first
 | (refine(ih (i+1) (⟨by omega,by omega⟩) ?_ _ ?_).trans ?_;(focus (first|omega|(simp;done)|(simp;omega)));(focus (simp[zI,hw,zUn];done));(focus (rfl)))
 | (apply zM (ex:=(Ext.exit 0)) 2 (some [4,6]);(focus (simp[zI];rfl));(focus (obtain rfl:i=w:=(by omega);rfl)))
theorem ncS0 (pl:List Nd) (L:List Ct) (w q:Nat) (hp:pl.length<2000000) (hF:oc.call 67 [.lst false 0 (nds false 0 pl),.int .i64 w]=some (.lst true 3 (cts L),[])) (hw0:w≤3) (hw1:1≤w):∀s,zI 2 (some [0,1,4,6,7]) s=⟨[(0,.lst false 0 (nds false 0 pl)),(1,.int .i64 w),(4,.ptr 2 0 []),(6,.ptr 3 0 []),(7,.int .i64 0)],[(2,⟨true,false,4,[clZ],0⟩),(3,⟨true,false,3,[.agg [.ref 4 0 pl.length,.lst true 7 [],.ref 5 0 q]],0⟩),(4,⟨false,false,7,nds true 1 pl,0⟩),(5,⟨false,false,1,kO true (List.replicate q []),0⟩)],6⟩ →
 oc.loop 18 8 s=some (.exit 0,⟨[(4,.ptr 2 0 []),(6,.ptr 3 0 [])],[(2,⟨true,false,4,[clZ],0⟩),(3,⟨true,false,3,[.agg [.ref 4 0 pl.length,.ref 5 0 w,.ref 6 0 q]],0⟩),(4,⟨false,false,7,nds true 1 pl,0⟩),(5,⟨false,false,7,wks true (List.replicate w (wk0 pl L)),0⟩),(6,⟨false,false,1,kO true (List.replicate q []),0⟩)],7⟩):=by
 intro s hs
 have hw:IntKind.i64.wrap (0+1)=1:=by decide
 have hwb:IntKind.i64.wrap 1=1:=by decide
 refine qB cd18 rfl rfl hs ?_
 refine wa_ (wa_ (zB (w_ (m_ (h:=w_ (m_ (h:=w_ (b_ (h:=zC (e_ (h:=zA (?_))))))))))))
 refine c_ (h1:=?_) (h2:=?_)
 rotate_right 1
 focus
  intro c1
  first
  | exact dn c1
  | (
   have d1:=c1;try simp at d1
   exfalso;rw[decide_eq_false_iff_not] at c1;omega
   )
 rotate_right 1
 focus
  intro c1
  first
  | exact dn c1
  | (
   have d1:=c1;try simp at d1
   refine zD (?_)
   )
 all_goals first
 | refine zS ?_
 | (
  refine zA ?_
  refine wa_ (zG (qE (y_ (f_ (h:=ax_ (h:=y_ (l_ (h:=ax_ (h:=y_ (m_ (h:=ax_ (h:=y_ (m_ (h:=ax_ (h:=y_ (ca (hc:=hF) (h:=ax_ (h:=y_ (m_ (h:=ax_ (h:=y_ (le (h:=ax_ (h:=y_ (mk (h:=ax_ (h:=y_ (bd (h:=ax_ (h:=?_))))))))))))))))))))))))))))))
  refine y_ (bs (h:=ax_ (h:=y_ (ap (h:=ax_ (h:=y_ (f_ (h:=ax_ (h:=y0 (s_ (h:=ax_ (h:=zC (ed (h:=zJ (zA (zB (w_ (m_ (h:=w_ (b_ (h:=w_ (a_ (h:=zC (e_ (h:=?_)))))))))))))))))))))))))
  )
 all_goals (refine(l_ncS pl L w q hp hF hw0 1 ⟨by omega,by omega⟩ _ ?_).trans rfl;(simp[zI,hw,hwb,zZ4];done))
theorem qH8 (pl:List Nd) (w:Int) (hp:pl.length<2000000) (hk:okN pl):oc.call 18 [.lst false 0 (nds false 0 pl),.int .i64 w]=some (.agg [.int .i64 (zR4 pl w).1,(zR4 pl w).2.v true],[]):=by
 refine qD rfl cd18 rfl rfl rfl (by simp;rfl) (by simp;rfl) ?_
 refine wa_ (zB (w_ (al (h:=zC (e_ (h:=zA (wa_ (wa_ (zB (w_ (m_ (h:=w_ (ca (hc:=zSk pl hp hk) (h:=w_ (a_ (h:=zC (e_ (h:=?_))))))))))))))))))
 refine zA (wa_ (zB (w_ (m_ (h:=w_ (bE (h:=zC (e_ (h:=zA (?_))))))))))
 refine c_ (h1:=?_) (h2:=?_)
 rotate_right 1
 focus
  intro c1
  first
  | exact dn c1
  | (
   have d1:=c1;try simp at d1
   refine zD (?_)
   )
 rotate_right 1
 focus
  intro c1
  first
  | exact dn c1
  | (
   have d1:=c1;try simp at d1
   refine wa_ (zB (w_ (m_ (h:=w_ (bd (h:=w0 (s_ (h:=zC (e_ (h:=zA (zH (?_))))))))))))
   )
 all_goals first
 | refine zL ?_
 | (
  refine zA ?_
  refine wa_ (wa_ (zB (w_ (m_ (h:=w_ (ca (hc:=zAl _ _ _) (h:=w_ (u_ (h:=zC (e_ (h:=zA (?_))))))))))))
  refine c_ (h1:=?_) (h2:=?_)
  rotate_right 1
  focus
   intro c2
   first
   | exact dn c2
   | (
    have d2:=c2;try simp at d2
    obtain⟨r1,r2⟩:1≤w∧w≤3:=(by simp[inI] at d2;omega);obtain⟨W,rfl⟩:∃W:Nat,w=W:=⟨w.toNat,by omega⟩;have hF:=zXv pl W hp;have hsq:W * W≤9:=Nat.le_trans (Nat.mul_le_mul (show W≤3 by omega) (show W≤3 by omega)) (by omega);have hww:IntKind.i64.wrap ((W:Int) * W)=((W * W:Nat):Int):=(by rw[qH (by push_cast at *;omega) (by push_cast at *;omega)];push_cast;rfl);have hto:((W:Int) * W).toNat=W * W:=(by rw[←Int.natCast_mul];exact Int.toNat_natCast _);have hfn:xR pl W=(0,(qK 1 0 pl).map (qG W)):=(by unfold xR;rw[if_neg (by simp[d1]),if_pos (by simpa using d2)])
    refine zD (?_)
    )
  rotate_right 1
  focus
   intro c2
   first
   | exact dn c2
   | (
    have d2:=c2;try simp at d2
    refine wa_ (zB (w_ (bd (h:=w0 (s_ (h:=zC (e_ (h:=zA (zH (?_))))))))))
    )
  all_goals first
  | refine zL ?_
  | (
   refine zA ?_
   refine wa_ (qE (y_ (m_ (h:=ax_ (h:=y_ (ca (hc:=e_cpS pl hp hk) (h:=ax_ (h:=y_ (m_ (h:=ax_ (h:=y_ (m_ (h:=ax_ (h:=y_ (b_ (h:=ax_ (h:=y_ (mk (h:=ax_ (h:=y_ (bd (h:=ax_ (h:=y_ (al (h:=ax_ (h:=y0 (s_ (h:=ax_ (h:=zC (ed (h:=?_)))))))))))))))))))))))))))))))
   refine zA (wa_ (wa_ (zB (w_ (a_ (h:=zC (e_ (h:=zA (zG (?_))))))))))
   refine qF (ncS0 pl ((qK 1 0 pl).map (qG W)) W (W * W) hp hF (by omega) (by omega) _ (by simp[zI,hww,hto,zKd,d1])) ?_
   refine zT (zA (wa_ (zB (w_ (l_ (h:=w_ (bd (h:=w0 (s_ (h:=zC (e_ (h:=zA (zH (?_))))))))))))))
   )
  )
 all_goals (refine qZ (hr:=(vA (tys_ok.zero _ _ rfl) rfl (by simp;rfl) (by rfl) zO)) (h:=?_);(focus (clear hk;first|(simp[zR4,xH,Cl.v,hfn];done)|(simp[zR4,xR,d1,d2,Cl.v];done)|(simp[zR4,xR,d1,Cl.v];done))))
end Go.Proofs.YtbcgenkegnmkhaaGreat.Ev
namespace Go.Proofs.YtbcgenkegnmkhaaGreat.Ev
open Go
set_option maxRecDepth 100000
set_option linter.unusedSimpArgs false
set_option linter.unusedVariables false
set_option maxHeartbeats 2000000
def okBy (c:List Int):Prop:=c.length≤140737488351232∧∀x∈c,0≤x∧x<256
theorem zPu {t:TypeId} {n:Nat} {v:V} (hu:Tryz.prog.underlying t=some (.int .u8)) (h:zJ9 Tryz.prog (n+1) t v):∃m,v = .int .u8 m∧(0≤m∧m<256):=by
 obtain⟨m,e,h1,h2⟩:=qAn hu h
 exact⟨m,e,by simp[IntKind.min,IntKind.max,IntKind.signed,IntKind.bits] at h1 h2;omega⟩
theorem dBytes {n:Nat} {v:V} (h:zJ9 Tryz.prog (n+2) 22 v):∃l,v = .lst false 0 (bys l)∧okBy l:=by
 obtain⟨xs,e,h1,h2⟩:=zUi Tryz.underlying22 h
 obtain⟨l,e2,h3⟩:=zO1 (f:=fun m=>V.int .u8 m) (p:=fun m=>0≤m∧m<256) (fun x hx=>by have q:=h2 x hx;first|exact zPu Tryz.underlying5 q|exact zPu Tryz.underlying3 q|exact zPu Tryz.underlying4 q|exact zPu Tryz.underlying6 q|exact zPu Tryz.underlying7 q|exact zPu Tryz.underlying8 q)
 exact⟨l,by rw[e,e2];rfl,by rw[e2] at h1;simpa using h1,h3⟩
theorem zW8 (c:List Int) (hc:okS c):∃r,oc.call 63 [.lst false 0 (bys c)]=some r∧(∃(pl:List Nd) (w:Int),r=(.tup [.lst false 0 (nds false 0 pl),.int .i64 w],[])∧planP pl):=by
 refine zT8 (Q:=fun r=>∃(pl:List Nd) (w:Int),r=(.tup [.lst false 0 (nds false 0 pl),.int .i64 w],[])∧planP pl) rfl cd63 rfl rfl rfl (by simp;rfl) (by simp;rfl) ?_
 obtain⟨pl,a1,hb,hp,h1⟩:=qCh c 0 hc (by omega)
 refine wa_ (zB (w_ (aN (h:=w_ (a_ (h:=zC (e_ (h:=zA (wa_ (zB (w_ (m_ (h:=?_)))))))))))))
 refine iE (h:=?_)
 apply Exists.intro
 apply Exists.intro
 apply Exists.intro
 apply And.intro
 focus
  apply zTf (by rw[zR0];rfl) cd34 rfl rfl (by simp;rfl)
  refine wa_ (zB (w_ (aP (h:=zC (e_ (h:=zA (wa_ (zB (w_ (m_ (h:=w_ (bd (h:=w_ (bx (h:=w_ (a_ (h:=zC (e_ (h:=?_)))))))))))))))))))
  refine zA (zH (?_))
  exact⟨by simp,_,rfl,rfl,rfl⟩
 refine⟨_,(by(simp;rfl)),?_⟩
 refine w_ (a_ (h:=zC (e_ (h:=zA (wa_ (zB (w_ (m_ (h:=w_ (cP (hc:=hb) (h:=w_ (m_ (h:=w_ (bs (h:=w_ (cPT (hc:=zCw c a1 [1,2,3,0,4] hc (by omega) (by simp) (by simp)) (h:=w_ (a_ (h:=w_ (a_ (h:=?_)))))))))))))))))))))
 refine zC (e_ (h:=zA (zH (?_))))
 all_goals (refine zXy (Q:=fun r=>∃(pl:List Nd) (w:Int),r=(.tup [.lst false 0 (nds false 0 pl),.int .i64 w],[])∧planP pl) (hr:=(zR rfl (zR rfl zO))) (h:=?_);(focus (exact⟨pl,_,by simp;rfl,hp⟩)))
theorem zWp (c:List Int) (hc:okS c):∃r,oc.call 16 [.lst false 0 (bys c)]=some r∧(∃(pl:List Nd) (w:Int),r=(.tup [.lst false 0 (nds false 0 pl),.int .i64 w],[])∧planP pl):=by
 refine zT8 (Q:=fun r=>∃(pl:List Nd) (w:Int),r=(.tup [.lst false 0 (nds false 0 pl),.int .i64 w],[])∧planP pl) rfl cd16 rfl rfl rfl (by simp;rfl) (by simp;rfl) ?_
 obtain⟨_,hd,pl,w,rfl,hp⟩:=zW8 c hc
 refine wa_ (zB (w_ (aN (h:=w_ (a_ (h:=zC (e_ (h:=zA (wa_ (zB (w_ (m_ (h:=w_ (ca (hc:=hd) (h:=w_ (ex (h:=w_ (ex (h:=?_)))))))))))))))))))
 refine w_ (a_ (h:=w_ (a_ (h:=zC (e_ (h:=zA (zH (?_))))))))
 all_goals (refine zXy (Q:=fun r=>∃(pl:List Nd) (w:Int),r=(.tup [.lst false 0 (nds false 0 pl),.int .i64 w],[])∧planP pl) (hr:=(zR rfl (zR rfl zO))) (h:=?_);(focus (exact⟨pl,w,by simp,hp⟩)))
theorem qCe (c:List Int) (h:c.length<400000000000000):oc.call 7 [.lst false 0 (bys c)]=some (.bool (decide (1048576<c.length)),[]):=by
 refine qD rfl cd7 rfl rfl rfl (by simp;rfl) (by simp;rfl) ?_
 refine wa_ (zB (w_ (a_ (h:=zC (e_ (h:=zA (wa_ (zB (w_ (m_ (h:=w_ (le (h:=w_ (b_ (h:=w_ (a_ (h:=zC (e_ (h:=?_)))))))))))))))))))
 refine zA (zH (?_))
 all_goals (refine qZ (hr:=(zR rfl zO)) (h:=?_);(focus (simp;omega)))
theorem zY0 {pl:List Nd} {w:Int} {C:Cl} (h:zR4 pl w=(0,C)):∃W:Nat,w=W∧1≤W∧W≤3∧(jS pl).2=0∧C=xH pl ((qK 1 0 pl).map (qG W)) W∧xR pl w=(0,(qK 1 0 pl).map (qG W)):=by
 unfold zR4 at h
 split at h
 ·rename_i h0
  obtain⟨h1,h2,h3,h4⟩:=zFb h0
  refine⟨w.toNat,by omega,by omega,by omega,h1,?_,?_⟩
  ·rw[h4] at h
   rw[show((w.toNat:Nat):Int)=w by omega]
   exact(congrArg Prod.snd h).symm
  ·rw[show((w.toNat:Nat):Int)=w by omega,← h4,← h0]
 ·rename_i h0
  exact absurd (congrArg Prod.fst h) h0
theorem zQ6 (pl:List Nd) (W:Nat) (h1:1≤W) (h3:W≤3) (hk:okN pl) (hr:(jS pl).2=0):oc.call 19 [(xH pl ((qK 1 0 pl).map (qG W)) W).v false]=some (.agg [.int .i64 0,.lst true 3 (cts ((qK 1 0 pl).map (qG W)))],[])∧oc.call 21 [(xH pl ((qK 1 0 pl).map (qG W)) W).v false]=some (.int .i64 0,[])∧oc.call 23 [(xH pl ((qK 1 0 pl).map (qG W)) W).v false]=some (.agg [.int .i64 0,.int .i64 0],[]):=by
 have hp:=(zIo hr).2
 obtain⟨L,hL⟩:∃L,(qK 1 0 pl).map (qG W)=L:=⟨_,rfl⟩
 have hL0:zPd pl L=0:=by rw[←hL];exact zOf h1 h3 hp
 have hLl:L.length≤8:=by rw[←hL];have:=jZ (op:=1) (l:=pl) (i:=0);simp;omega
 have hcl:=zYd (pl:=pl) (L:=L) h1 h3 hr hL0
 have hx:zA8 (xH pl L W).workers<2000000:=zYu h1 h3 hp hLl
 have hy:vC (xH pl L W).links<2000000:=zZv h3
 have hpp:(xH pl L W).plan.length<2000000:=by show pl.length<2000000;omega
 rw[hL]
 have e1:=qDj (xH pl L W) Fz hpp hk hx hy (fun _=>zYz rfl h1 h3 hp)
 have e2:=zX6 (xH pl L W) hpp hk hx hy
 have e3:=qD6 (xH pl L W) hpp hk hx hy
 have t1:trN Fz (xH pl L W)=(0,L):=by unfold trN;rw[if_pos hcl,zSp rfl h1 h3 hp,hL]
 have t3:zS2 (xH pl L W)=(0,0):=by
  unfold zS2
  rw[if_pos hcl]
  have a1:vJ (xH pl L W).links=0:=by rw[←lenS_flat];show(List.replicate (W * W) []).flatten.length=0;rw[zEl];rfl
  have a2:inS (xH pl L W).workers=0:=by
   have:=zY2 (f:=fun w:Wk=>w.inbox.length) (c:=0) (l:=(xH pl L W).workers) (fun x hx=>by rw[(List.mem_replicate.1 hx).2];exact Nat.le_refl _)
   unfold inS;omega
  rw[a1,a2];rfl
 rw[t1] at e1
 rw[hcl] at e2
 rw[t3] at e3
 exact⟨e1,e2,e3⟩
theorem qJ0 (pl:List Nd) (L:List Ct) (W q:Nat) (ws:List Wk) (fs:List (List Fr)) (hw:ws.length=W) (hq:fs.length=q) (hL:L.length≤8):∀i:Nat,(i≤L.length)→∀s,zI 1 (some [5,6,7,8]) s=⟨[(5,.ptr 1 0 []),(6,.ptr 2 0 []),(7,.ptr 3 0 []),(8,.int .i64 i)],[(1,⟨true,false,4,[.agg [.int .i64 0,.agg [.ref 4 0 pl.length,.ref 5 0 W,.ref 6 0 q]]],0⟩),(2,⟨true,false,2,[.agg [.int .i64 0,.ref 7 0 L.length]],0⟩),(3,⟨true,false,2,[.agg [.int .i64 0,.ref 8 0 L.length]],0⟩),(4,⟨false,false,7,nds true 1 pl,0⟩),(5,⟨false,false,7,wks true ws,0⟩),(6,⟨false,false,1,kO true fs,0⟩),(7,⟨false,false,3,cts L,0⟩),(8,⟨false,false,3,cts L,0⟩)],9⟩ →
 oc.loop 4 12 s=some (.exit 0,⟨[(5,.ptr 1 0 [])],[(1,⟨true,false,4,[.agg [.int .i64 0,.agg [.ref 2 0 pl.length,.ref 3 0 W,.ref 4 0 q]]],0⟩),(2,⟨false,false,7,nds true 1 pl,0⟩),(3,⟨false,false,7,wks true ws,0⟩),(4,⟨false,false,1,kO true fs,0⟩)],5⟩):=by
 refine zW (σ:=Nat) (fun i=>L.length - i) _ (fun i=>⟨[(5,.ptr 1 0 []),(6,.ptr 2 0 []),(7,.ptr 3 0 []),(8,.int .i64 i)],[(1,⟨true,false,4,[.agg [.int .i64 0,.agg [.ref 4 0 pl.length,.ref 5 0 W,.ref 6 0 q]]],0⟩),(2,⟨true,false,2,[.agg [.int .i64 0,.ref 7 0 L.length]],0⟩),(3,⟨true,false,2,[.agg [.int .i64 0,.ref 8 0 L.length]],0⟩),(4,⟨false,false,7,nds true 1 pl,0⟩),(5,⟨false,false,7,wks true ws,0⟩),(6,⟨false,false,1,kO true fs,0⟩),(7,⟨false,false,3,cts L,0⟩),(8,⟨false,false,3,cts L,0⟩)],9⟩) _ ?_
 intro i hi ih s hs
 refine qB cd4 rfl rfl hs ?_
 refine wa_ (wa_ (zB (w_ (m_ (h:=w_ (f_ (h:=w_ (l_ (h:=w_ (le (h:=w_ (b_ (h:=zC (e_ (h:=zA (?_))))))))))))))))
 refine c_ (h1:=?_) (h2:=?_)
 rotate_right 1
 focus
  intro c1
  first
  | exact dn c1
  | (
   have d1:=c1;try simp at d1
   refine zX (?_)
   )
 rotate_right 1
 focus
  intro c1
  first
  | exact dn c1
  | (
   have d1:=c1;try simp at d1
   have hj:i<L.length:=(by simp at c1;omega);have hwi:=zV (i:=i) (by omega);obtain⟨d,hx,e1,_⟩:=zDm (l:=L) (i:=i) hj;have g1:=zU9 hx;simp only[Ct.v] at g1
   refine zD (?_)
   )
 all_goals first
 | refine zS ?_
 | (
  refine zA ?_
  refine wa_ (zG (wa_ (qE (y_ (f_ (h:=ax_ (h:=y_ (l_ (h:=ax_ (h:=y_ (m_ (h:=ax_ (h:=y_ (x_ (h:=ax_ (h:=y_ (l_ (h:=ax_ (h:=y_ (f_ (h:=ax_ (h:=y_ (l_ (h:=ax_ (h:=y_ (m_ (h:=ax_ (h:=?_))))))))))))))))))))))))))))
  refine y_ (x_ (h:=ax_ (h:=y_ (l_ (h:=ax_ (h:=y_ (?_)))))))
  refine bA (hN:=qL0 (n:=3) (by kernel_rfl)) (hq:=rfl) (hr:=.inr ⟨rfl,rfl⟩) (h:=?_)
  refine ax_ (h:=zC (ed (h:=zA (?_))))
  refine c_ (h1:=?_) (h2:=?_)
  rotate_right 1
  focus
   intro c2
   first
   | exact dn c2
   | (
    have d2:=c2;try simp at d2
    refine zD (?_)
    )
  rotate_right 1
  focus
   intro c2
   first
   | exact dn c2
   | (
    have d2:=c2;try simp at d2
    refine wa_ (zB (w_ (a_ (h:=zC (e_ (h:=zA (zH (?_))))))))
    )
  all_goals first|refine zJ ?_|refine zY ?_
  all_goals first
  | refine zL ?_
  | (
   refine zA ?_
   refine zB (w_ (m_ (h:=w_ (b_ (h:=w_ (a_ (h:=zC (e_ (h:=?_)))))))))
   )
  )
 all_goals first
 | (refine(ih (i+1) (by omega) ?_ _ ?_).trans ?_;(focus (first|omega|(simp;done)|(simp;omega)));(focus (simp[zI,hwi];done));(focus (rfl)))
 | (apply zM (ex:=(Ext.exit 0)) 1 (some [2,5]);(focus (simp[zI];rfl));(focus (rfl)))
theorem zT3 (c:List Int) (hb:∀x∈c,0≤x∧x<256) (hl4:c.length<400000000000000):oc.call 4 [.lst false 0 (bys c)]=some (.bool true,[]):=by
 refine qD rfl cd4 rfl rfl rfl (by simp;rfl) (by simp;rfl) ?_
 refine wa_ (zB (w_ (a_ (h:=zC (e_ (h:=zA (wa_ (wa_ (zB (w_ (m_ (h:=w_ (ca (hc:=qCe c hl4) (h:=zC (e_ (h:=zA (?_)))))))))))))))))
 refine c_ (h1:=?_) (h2:=?_)
 rotate_right 1
 focus
  intro c1
  first
  | exact dn c1
  | (
   have d1:=c1;try simp at d1
   have hok:okS c:=⟨by omega,hb⟩;obtain⟨_,hd,pl,w,rfl,hp⟩:=zWp c hok;have hpl:=hp.1;obtain⟨⟨k,C⟩,hN⟩:∃X,zR4 pl w=X:=⟨_,rfl⟩;have hI:=qI9 pl w (by omega) hp.ok;have hS:=qH8 pl w (by omega) hp.ok;rw[hN] at hI hS;simp only at hI hS
   refine zD (?_)
   )
 rotate_right 1
 focus
  intro c1
  first
  | exact dn c1
  | (
   have d1:=c1;try simp at d1
   refine wa_ (zB (w_ (a_ (h:=zC (e_ (h:=zA (zH (?_))))))))
   )
 all_goals first
 | refine zL ?_
 | (
  refine zA ?_
  refine wa_ (zB (w_ (m_ (h:=w_ (ca (hc:=hd) (h:=w_ (m_ (h:=w_ (ex (h:=w_ (ex (h:=w_ (a_ (h:=w_ (a_ (h:=zC (e_ (h:=zA (wa_ (?_))))))))))))))))))))
  refine zB (w_ (m_ (h:=w_ (m_ (h:=w_ (ca (hc:=hI) (h:=w_ (al (h:=w0 (s_ (h:=zC (e_ (h:=zA (wa_ (wa_ (zB (w_ (f_ (h:=?_)))))))))))))))))))
  refine w_ (l_ (h:=w_ (bE (h:=zC (e_ (h:=zA (?_)))))))
  refine c_ (h1:=?_) (h2:=?_)
  rotate_right 1
  focus
   intro c2
   first
   | exact dn c2
   | (
    have d2:=c2;try simp at d2
    obtain rfl:k=0:=(by simpa using c2);obtain⟨W,rfl,h1,h3,hr,hC,hf⟩:=zY0 hN;obtain⟨hT,hCl,hIn⟩:=zQ6 pl W h1 h3 hp.ok hr;have hSf:=zSx pl W h1 h3 hp.ok hr;have hFc:=zKb pl W (by omega) hp.ok;rw[hf] at hFc;rw[←hC] at hT hCl hIn hSf;obtain⟨L,hL⟩:∃L,(qK 1 0 pl).map (qG W)=L:=⟨_,rfl⟩;rw[hL] at hT hFc;have hLl:L.length≤8:=(by rw[←hL];have:=jZ (op:=1) (l:=pl) (i:=0);have:=zIo hr;simp;omega)
    refine zD (?_)
    )
  rotate_right 1
  focus
   intro c2
   first
   | exact dn c2
   | (
    have d2:=c2;try simp at d2
    refine wa_ (qE (y_ (m_ (h:=ax_ (h:=y_ (m_ (h:=ax_ (h:=y_ (ca (hc:=hS) (h:=ax_ (h:=y_ (fi (h:=ax_ (h:=y_ (f_ (h:=ax_ (h:=y_ (l_ (h:=ax_ (h:=y_ (bE (h:=ax_ (h:=y_ (a_ (h:=ax_ (h:=zC (ed (h:=zA (?_)))))))))))))))))))))))))))))
    refine zH (?_)
    )
  all_goals first
  | refine zL ?_
  | (
   refine zA ?_
   refine wa_ (zB (w_ (f_ (h:=w_ (l_ (h:=w_ (ca (hc:=hT) (h:=w_ (al (h:=w0 (s_ (h:=zC (e_ (h:=zA (wa_ (zB (w_ (m_ (h:=?_)))))))))))))))))))
   refine w_ (m_ (h:=w_ (ca (hc:=hFc) (h:=w_ (al (h:=w0 (s_ (h:=zC (e_ (h:=zA (wa_ (wa_ (zB (w_ (f_ (h:=w_ (l_ (h:=w_ (bE (h:=?_))))))))))))))))))))
   refine w_ (m_ (h:=?_))
   refine gw_ (h1:=?_) (h2:=?_)
   rotate_right 1
   focus
    intro c3
    first
    | exact dn c3
    | (
     have d3:=c3;try simp at d3
     refine go_ (h:=go_ (h:=go_ (h:=?_)))
     )
   rotate_right 1
   focus
    intro c3
    first
    | exact dn c3
    | (
     have d3:=c3;try simp at d3
     refine g_ (h:=w_ (f_ (h:=g_ (h:=w_ (l_ (h:=g_ (h:=w_ (bE (h:=?_)))))))))
     )
   all_goals
    refine w_ (pk (h:=w_ (m_ (h:=?_))))
    refine gw_ (h1:=?_) (h2:=?_)
    rotate_right 1
    focus
     intro c4
     first
     | exact dn c4
     | (
      have d4:=c4;try simp at d4
      refine go_ (h:=go_ (h:=go_ (h:=go_ (h:=go_ (h:=go_ (h:=go_ (h:=?_)))))))
      )
    rotate_right 1
    focus
     intro c4
     first
     | exact dn c4
     | (
      have d4:=c4;try simp at d4
      refine g_ (h:=w_ (f_ (h:=g_ (h:=w_ (l_ (h:=g_ (h:=w_ (le (h:=g_ (h:=w_ (f_ (h:=g_ (h:=w_ (l_ (h:=g_ (h:=w_ (le (h:=g_ (h:=w_ (bE (h:=?_)))))))))))))))))))))
      )
    all_goals
     refine w_ (pk (h:=zC (e_ (h:=?_))))
   all_goals first
   | (
    refine zA ?_
    refine c_ (h1:=?_) (h2:=?_)
    rotate_right 1
    focus
     intro c5
     first
     | exact dn c5
     | (
      have d5:=c5;try simp at d5
      refine zD (?_)
      )
    rotate_right 1
    focus
     intro c5
     first
     | exact dn c5
     | (
      have d5:=c5;try simp at d5
      refine wa_ (zB (w_ (a_ (h:=zC (e_ (h:=zA (zH (?_))))))))
      )
    )
   all_goals first
   | refine zL ?_
   | (
    refine zA ?_
    refine wa_ (wa_ (zB (w_ (a_ (h:=zC (e_ (h:=zA (zG (?_)))))))))
    refine qF (qJ0 C.plan L C.workers.length C.links.length C.workers C.links rfl rfl hLl 0 (by omega) _ (by simp[zI];simp[hC,hL])) ?_
    first|refine zY ?_|refine zT ?_
    all_goals first
    | refine zL ?_
    | (
     refine zA ?_
     refine wa_ (zB (w_ (f_ (h:=w_ (l_ (h:=w_ (ca (hc:=hCl) (h:=w_ (bE (h:=w_ (m_ (h:=?_))))))))))))
     refine gw_ (h1:=?_) (h2:=?_)
     rotate_right 1
     focus
      intro c6
      first
      | exact dn c6
      | (
       have d6:=c6;try simp at d6
       refine go_ (h:=go_ (h:=go_ (h:=?_)))
       )
     rotate_right 1
     focus
      intro c6
      first
      | exact dn c6
      | (
       have d6:=c6;try simp at d6
       refine g_ (h:=w_ (f_ (h:=g_ (h:=w_ (l_ (h:=g_ (h:=w_ (ca (hc:=hSf) (h:=?_)))))))))
       )
     all_goals
      refine w_ (pk (h:=w_ (m_ (h:=?_))))
      refine gw_ (h1:=?_) (h2:=?_)
      rotate_right 1
      focus
       intro c7
       first
       | exact dn c7
       | (
        have d7:=c7;try simp at d7
        refine go_ (h:=go_ (h:=go_ (h:=go_ (h:=go_ (h:=?_)))))
        )
      rotate_right 1
      focus
       intro c7
       first
       | exact dn c7
       | (
        have d7:=c7;try simp at d7
        refine g_ (h:=w_ (f_ (h:=g_ (h:=w_ (l_ (h:=g_ (h:=w_ (ca (hc:=hIn) (h:=g_ (h:=w_ (fi (h:=g_ (h:=w_ (bE (h:=?_)))))))))))))))
        )
      all_goals
       refine w_ (pk (h:=w_ (a_ (h:=zC (e_ (h:=?_))))))
     all_goals first
     | (
      refine zA ?_
      refine zH (?_)
      )
     )
    )
   )
  )
 all_goals (refine qZ (hr:=(zR rfl zO)) (h:=?_);(focus (first|rfl|(simp;done))))
theorem law_fnFresh (c:List Int) (h:okBy c):oc.call 4 [.lst false 0 (bys c)]=some (.bool true,[]):=zT3 c h.2 (by have:=h.1;omega)
end Go.Proofs.YtbcgenkegnmkhaaGreat.Ev
