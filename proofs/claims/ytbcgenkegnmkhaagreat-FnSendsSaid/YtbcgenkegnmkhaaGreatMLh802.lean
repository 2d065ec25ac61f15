/- Part 2 of the proof that the law named in the last part returns true at every argument: an evaluator of the program, shown sound, and its runs. No further conditions. -/
import Derived.Test.YtbcgenkegnmkhaaGreatMLh801
namespace Go.Proofs.YtbcgenkegnmkhaaGreat.Ev
open Go
set_option linter.unusedSectionVars false
set_option linter.unusedSimpArgs false
section
variable {P : Program} {u : Nat->Prop} {h : Hs} {sh : Nat->Prop} {w w0 : World} {fa : List Nat} {fp : Nat->List Nat} {s : St} {a : Act}
theorem zBa {ts:Array TypeId} {t t' ty e e':TypeId} {i:TypeInfo} (h0:ts[0]? = some t) (h1:ts[1]? = some t') (ht:P.underlying t=some (.slice e)) (ht':P.underlying t'=some (.slice e')) (hi:P.info? e=some i)
  {ad ay:Option Addr} {sLen sCap n cy:Nat} {news:Array Value} {w':World} (hroom:sLen+n<=sCap) (hf:(Builtin.firstCells i.size n (.slice ay n cy)).run P w = .ok news w)
  (hst:match ad with|none=>w'=w|some a=>(storeCells (a.add (sLen * i.size)) news.toList).run P w = .ok () w') :
  (Builtin.append_ ts ty #[.slice ad sLen sCap,.slice ay n cy]).run P w = .ok (.slice ad (sLen+n) sCap) w':=by
 cases ad with
 | none =>
  simp only at hst;subst hst;simp[Builtin.append_,h0,h1,run_underlying ht,run_underlying ht',sizeOf,typeInfo,hi,Builtin.lenOf,hroom,hf]
 | some a =>
  simp only at hst;simp[Builtin.append_,h0,h1,run_underlying ht,run_underlying ht',sizeOf,typeInfo,hi,Builtin.lenOf,hroom,hf,hst]
theorem zA2 {ts:Array TypeId} {t t' ty e e':TypeId} {i:TypeInfo} {z:Value} (h0:ts[0]? = some t) (h1:ts[1]? = some t') (ht:P.underlying t=some (.slice e)) (ht':P.underlying t'=some (.slice e')) (hi:P.info? e=some i) (hz:i.zero=some z)
  {ad ay:Option Addr} {sLen sCap n cy:Nat} {olds news:Array Value} (hroom:¬sLen+n<=sCap) (h63:((sLen+n:Nat):Int)<=9223372036854775807) (hfit:Builtin.nextslicecap (sLen+n) sCap * i.bytes<=281474976710656)
  (ho:(Builtin.firstCells i.size sLen (.slice ad sLen sCap)).run P w.drew = .ok olds w.drew) (hf:(Builtin.firstCells i.size n (.slice ay n cy)).run P w.drew = .ok news w.drew) :
  (Builtin.append_ ts ty #[.slice ad sLen sCap,.slice ay n cy]).run P w = .ok (.slice (some ⟨w.heap.size,0,none⟩) (sLen+n) (grownCap w (sLen+n) sCap e))
    (w.drew.alloc (.cells (olds++news++Builtin.zeroCells z.cells (grownCap w (sLen+n) sCap e - (sLen+n))) e)):=by
 have h63':¬(9223372036854775807<((sLen:Int)+(n:Int))):=by omega
 have h48':¬(281474976710656<Builtin.nextslicecap (sLen+n) sCap * i.bytes):=by omega
 simp[Builtin.append_,h0,h1,run_underlying ht,run_underlying ht',sizeOf,typeInfo,zeroValue,hi,hz,Builtin.lenOf,hroom,h63',h48',Question.forced,ho,hf,newRow,grownCap]
theorem At.drew {b off:Nat} {cs:List Value} (h:At w b off cs):At w.drew b off cs:=fun i v hi=>h i v hi
theorem zDq {b off n l c k:Nat} {ds:List Value} (hat:At w b off ds) (hl:ds.length=n * k):(Builtin.firstCells k n (.slice (some ⟨b,off,none⟩) l c)).run P w = .ok ds.toArray w:=by
 unfold Builtin.firstCells;exact zCb P w b off (n * k) ds hat hl
theorem RelX.append {z:Nat}:∀{xs ys:List V} {cs ds:List Value} {f g:List Nat},RelX h sh w z xs cs f->RelX h sh w z ys ds g->RelX h sh w z (xs++ys) (cs++ds) (f++g)
 | [],ys,cs,ds,f,g,r,q=>by
  simp only[RelX] at r;obtain⟨rfl,rfl⟩:=r;exact q
 | x::xs,ys,cs,ds,f,g,r,q=>by
  simp only[RelX] at r;obtain⟨c1,c2,f1,f2,rfl,rfl,el,r1,r2⟩:=r;simp only[List.cons_append,RelX];exact⟨c1,c2++ds,f1,f2++g,by simp,by simp,el,r1,RelX.append r2 q⟩
theorem RelX.ones {z:Nat}:∀{xs:List V} {cs:List Value} {f:List Nat},RelX h sh w z xs cs f->∀c∈cs,zXa c
 | [],cs,f,r,c,hc=>by simp only[RelX] at r;rw[r.1] at hc;cases hc
 | x::xs,cs,f,r,c,hc=>by
  simp only[RelX] at r;obtain⟨c1,c2,f1,f2,rfl,rfl,el,r1,r2⟩:=r;rcases List.mem_append.1 hc with hc|hc
  ·exact Rel.onesC r1 c hc
  ·exact RelX.ones r2 c hc
theorem RelX.recell {z z':Nat}:∀{xs:List V} {cs:List Value} {f:List Nat},RelX h sh w z xs cs f->(∀x∈xs,x.cells=z')->RelX h sh w z' xs cs f
 | [],cs,f,r,_=>by simpa only[RelX] using r
 | x::xs,cs,f,r,hz=>by
  simp only[RelX] at r ⊢;obtain⟨c1,c2,f1,f2,e,ef,el,r1,r2⟩:=r;exact⟨c1,c2,f1,f2,e,ef,by rw[Rel.len r1,hz x (List.mem_cons_self ..)],r1,RelX.recell r2 (fun y hy=>hz y (List.mem_cons_of_mem _ hy))⟩
theorem Sim.newNil {tm:Array Value} (S:Sim w0 fa sh u h fp s tm w) {id:Nat} (hid:¬u id) {sz:Nat} {fx:Bool} :
  ∃h' fp',Sim w0 fa sh (fun o=>u o\/o=id) h' fp' (s.new id ⟨false,fx,sz,[],0⟩) tm w/\h.Le u h'/\h'.hd id=none/\(∀q,q≠id->fp' q=fp q)/\fp' id=[]:=by
 have hne:∀o,u o->o≠id:=fun o ho e=>hid (e ▸ ho)
 let H:Hs:={ h with hd:=fun q=>if q=id then none else h.hd q,vr:=fun q=>if q=id then 0 else h.vr q }
 have hle:h.Le u H:=⟨fun o ho=>by simp[H,hne o ho],fun o ho=>rfl,fun o ho=>by simp[H,hne o ho],fun o ho i fs v _=>rfl,fun o ho i fs v _=>rfl⟩;refine⟨H,fun q=>if q=id then [] else fp q,?_,hle,by simp[H],fun q hq=>if_neg hq,if_pos rfl⟩
 have hob:∀o ob',zO (s.new id ⟨false,fx,sz,[],0⟩).obs o=some ob'->(o=id/\ob'=⟨false,fx,sz,[],0⟩)\/(o≠id/\zO s.obs o=some ob'):=by
  intro o ob' ho
  by_cases e:o=id
  ·subst e
   simp only[St.new,qG,Option.some.injEq] at ho;exact .inl ⟨rfl,ho.symm⟩
  ·simp only[St.new,zT e] at ho
   exact .inr ⟨e,ho⟩
 refine S.step (u':=fun o=>u o\/o=id) (h':=H) (fun o ho=>.inl ho) hle rfl (Grew.refl _) (fun _ _ _=>rfl) (fun b' hb'=>⟨hb',rfl⟩) ?_ ?_ ?_
 ·intro b' hb'
  refine⟨(S.shr b' hb').1,fun o ob' ho=>?_⟩;rcases hob o ob' ho with⟨rfl,rfl⟩|⟨hne',ho⟩
  ·simp
  ·rw[if_neg hne']
   exact(S.shr b' hb').2 o ob' ho
 ·intro o ob' ho
  rcases hob o ob' ho with⟨rfl,rfl⟩|⟨hne',ho⟩
  ·refine .inr ⟨.inr rfl,?_,by simp,by simp⟩
   refine⟨by simp[H],fun x hx=>(by cases hx),?_,fun i x fs y hx=>(by simp at hx),fun b1 off1 c1 z1 hd=>(by simp[H] at hd),fun hb=>(by cases hb)⟩;simp only[H,if_true];exact⟨trivial,trivial,trivial⟩
  ·exact .inl ⟨ho,if_neg hne',by simp[H,hne'],fun _ _=>rfl⟩
 ·intro o o' ob1 ob2 h1 h2 hoo b' hb'
  rcases hob o ob1 h1 with⟨rfl,rfl⟩|⟨n1,g1⟩
  ·simp at hb'
  ·rw[if_neg n1] at hb'
   rcases hob o' ob2 h2 with⟨rfl,rfl⟩|⟨n2,g2⟩
   ·simp
   ·rw[if_neg n2]
    exact S.apart o o' ob1 ob2 g1 g2 hoo b' hb'
theorem zK8 {k:Nat} {x:V} (hx:x≠.emp true):x.asRow k=x:=by
 cases x with
 | emp b=>cases b<;>simp_all [V.asRow]
 | _=>rfl
theorem Rel.asRow {k:Nat} {x:V} {cs:List Value} (r:Rel h sh w x cs []):Rel h sh w (x.asRow k) cs []:=by
 by_cases hx:x = .emp true
 ·subst hx
  simp only[Rel] at r;obtain⟨_,a,c,e,h1,h2⟩:=r;have hn:a=none:=by simpa using h1
  subst hn;simp only[V.asRow,Rel,if_true];exact .inl ⟨trivial,trivial,by rw[e,h2 rfl]⟩
 ·rw[zK8 hx];exact r
theorem zT1 {k:Nat} {x:V}:(x.asRow k).accF=x.accF:=by
 by_cases hx:x = .emp true
 ·subst hx;rfl
 ·rw[zK8 hx]
theorem zMo {ts:Array TypeId} {t t' ty e:TypeId} {k kk:IntKind} {i:TypeInfo} {z:Value} {n:Nat} (h0:ts[0]? = some t) (h1:ts[1]? = some t') (ht:P.underlying t=some (.slice e)) (ht':P.underlying t'=some (.int kk)) (hi:P.info? e=some i) (hz:i.zero=some z)
  (hn:0<n) (hm:n<2147483648) (hp:0<i.size) (hb:i.bytes<=65536) (hfit:Builtin.nextslicecap n 0 * i.bytes<=281474976710656) :
  (Builtin.append_ ts ty #[.slice none 0 0,.int k (n:Int)]).run P w = .ok (.slice (some ⟨w.heap.size,0,none⟩) n (grownCap w n 0 e))
    (w.drew.alloc (.cells (Builtin.zeroCells z.cells n++Builtin.zeroCells z.cells (grownCap w n 0 e - n)) e)):=by
 have hw:IntKind.i64.wrap (n:Int)=n:=by unfold IntKind.wrap;simp[IntKind.bits,IntKind.signed];omega
 have h1b:n * i.bytes<=n * 65536:=Nat.mul_le_mul_left _ hb
 have h48:¬(281474976710656<(n:Int) * (i.bytes:Int)):=by
  have:((n * i.bytes:Nat):Int)=(n:Int) * (i.bytes:Int):=by push_cast;rfl
  omega
 have hroom:¬n<=0:=by omega
 have h63':¬(9223372036854775807<(n:Int)):=by omega
 have h48':¬(281474976710656<Builtin.nextslicecap n 0 * i.bytes):=by omega
 have hns:¬(n * i.size=0):=by
  have:=Nat.mul_pos hn hp
  omega
 have hneg:¬((n:Int)<0):=by omega
 have hao:(asIntOf (.int k (n:Int))).run P w = .ok (k,(n:Int)) w:=rfl;simp[Builtin.append_,h0,h1,run_underlying ht,run_underlying ht',sizeOf,typeInfo,zeroValue,hi,hz,asInt,hao,hw,hneg,h48,hroom,hns,h63',h48',Question.forced,newRow,grownCap,Builtin.firstCells];omega
theorem RelX.takeS {z:Nat}:∀{xs:List V} {cs:List Value} {f:List Nat} (n:Nat),RelX h sh w z xs cs f->∃f',f'.Sublist f/\RelX h sh w z (xs.take n) (cs.take (n * z)) f'
 | xs,cs,f,0,r=>⟨[],List.nil_sublist _,by simp[RelX]⟩
 | [],cs,f,n+1,r=>by simp only[RelX] at r;exact⟨[],List.nil_sublist _,by simp[RelX,r.1]⟩
 | x::q,cs,f,n+1,r=>by
  simp only[RelX] at r;obtain⟨c1,c2,f1,f2,rfl,rfl,el,r1,r2⟩:=r;obtain⟨f',s',r'⟩:=RelX.takeS n r2;refine⟨f1++f',List.Sublist.append (List.Sublist.refl _) s',?_⟩;rw[List.take_succ_cons];rw[show(n+1) * z=c1.length+n * z from by rw[Nat.succ_mul,el,Nat.add_comm]]
  have ht:List.take (c1.length+n * z) (c1++c2)=c1++List.take (n * z) c2:=by
   rw[List.take_append,List.take_of_length_le (by omega)];simp
  rw[ht];simp only[RelX];exact⟨c1,_,f1,f',rfl,rfl,el,r1,r'⟩
theorem qA8 {cfg:Cfg} (C:CfgOK P cfg) (S:Sim w0 fa sh u h fp s a.tmps w) {o:Oper} {c:Go.Call} {t:TypeId} {q lo n:Nat} {z:V} {ob:Ob} {id:Nat} (ho:o.op = .call c) (hb:c.callee = .builtin .clear) (hx:kW s.env c.args.toList=some [.ref q lo n])
  (ht:c.argTypes[0]? = some t) (hzz:(cfg.elem t).bind cfg.zero=some z) (hob:zO s.obs q=some ob) (hbx:ob.bx=false) (hsz:ob.sz=z.cells) (hn:0<n) (hl:lo+n=ob.xs.length) :
  Does P o a w (Turn w0 fa sh u h { s with obs:=xC s.obs q { ob with xs:=ob.xs.take lo,ver:=ob.ver+1 } } a.tmps id .und):=by
 obtain⟨vx,hargs,rx,_⟩:=zJc S hx
 obtain⟨e,he,hz⟩:∃e,cfg.elem t=some e/\cfg.zero e=some z:=by
  cases he:cfg.elem t with
  | none=>rw[he] at hzz;cases hzz
  | some e=>rw[he] at hzz;exact⟨e,rfl,hzz⟩
 have hu:=C.elem t e he;obtain⟨i,zv,d,hi,hzv,hszi,hpos,hby,_,_,_,hmen,hrel,_⟩:=C.zero e z hz;have r0:=hrel h sh w;have hl0:=Rel.len r0;have hzs:zv.cells.size=z.cells:=by rw[<-hl0];simp
 obtain⟨huq,R⟩:=S.obs q ob hob;have hrow:=R.row;simp only[RelS,RelS0,Rel] at rx;obtain⟨_,rx⟩:=rx;cases hd:h.hd q with
 | none =>
  rw[hd] at hrow
  have:ob.xs.length=0:=by rw[hrow.1];rfl
  omega
 | some k =>
  obtain⟨b,off,c',zz⟩:=k;rw[hd] at hrow rx;simp only[List.cons.injEq,and_true] at rx;obtain⟨hlc,hvx⟩:=rx;obtain⟨hzo,hxc,hR,ds,fps,hfp,hat,hX⟩:=hrow;have hzz2:zz=z.cells:=hzo.trans hsz;have hds:=RelX.len hX
  have hones:∀v∈(Builtin.zeroCells zv.cells n).toList,zXa v:=by
   have e1:(Builtin.zeroCells zv.cells n).toList=(List.replicate n zv.cells.toList).flatten:=zE3 (by omega) n;rw[e1];exact RelX.ones (RelX.replicate (n:=n) r0 hl0)
  have hvl:(Builtin.zeroCells zv.cells n).toList.length=n * zz:=by
   rw[Array.length_toList,size_zeroCells,hzs,hzz2]
  have hmul:lo * zz+n * zz<=c' * zz:=by
   rw[<-Nat.add_mul];exact Nat.mul_le_mul_right _ hlc
  obtain⟨w',hrun,hw,hcell⟩:=yT P b (off+lo * zz) (Builtin.zeroCells zv.cells n).toList 0 w (off+c' * zz) hR (by rw[hvl];omega) hones;have hb0:b∈fp q:=by rw[hfp];exact List.mem_cons_self ..
  have hown:=S.own q ob hob;have hnd:=hown.1;rw[hfp] at hnd;have hnd1:=List.nodup_cons.1 hnd;obtain⟨f',hsub,hX'⟩:=RelX.takeS lo hX;have hfm:∀k∈f',k∈fps:=fun k hk=>hsub.subset hk
  have hshk:∀k,sh k->w'.heap[k]? = w.heap[k]?:=fun k hk=>hw.other k (fun e=>(S.shr k hk).2 q ob hob (e ▸ hb0))
  have hmm:V.mentionL (ob.xs.take lo)=[]:=by
   apply List.eq_nil_iff_forall_not_mem.2;intro p hp;obtain⟨x,hx1,hp⟩:=mem_mentionL.1 hp;rw[(R.men x (List.mem_of_mem_take hx1)).1 hbx] at hp;cases hp
  have hX2:RelX h sh w' zz (ob.xs.take lo) (ds.take (lo * zz)) f':=RelX.keep ⟨Hs.Le.refl u h,fun k hk=>⟨hk,hshk k hk⟩⟩ hX' (by rw[hmm];intro p hp;cases hp) (fun k hk=>hw.other k (fun e=>hnd1.1 (e ▸ hfm k hk)))
  have hat':At w' b off (ds.take (lo * zz)):=by
   intro j v hj;simp only[Nat.add_zero] at hcell;have hj1:=(List.getElem?_eq_some_iff.1 hj).1;rw[List.length_take] at hj1;rw[hcell,if_neg (by omega)];rw[List.getElem?_take_of_lt (by omega)] at hj;exact hat j v hj
  obtain⟨h',fp',S',hle',_,_,_⟩:=S.setOb (ob':={ ob with xs:=ob.xs.take lo,ver:=ob.ver+1 }) hob hd hw.other hw.size hw.os hw.out hw.row hzo (by simp;omega) hX2 hat'
   (fun x hx1=>R.men x (List.mem_of_mem_take hx1))
   (fun j x fs y hx1 hg=>by
    have hx2:ob.xs[j]? = some x:=by
     rw[List.getElem?_take] at hx1;split at hx1
     ·exact hx1
     ·cases hx1
    rw[hzo];exact R.ofs j x fs y hx2 hg)
   (.inl rfl) rfl (fun hk=>hnd1.1 (hfm b hk)) (hsub.nodup hnd1.2)
   (fun k hk=>by
    have hkq:k∈fp q:=by rw[hfp];exact List.mem_cons_of_mem _ (hfm k hk)
    exact⟨(hown.2 k hkq).1,(hown.2 k hkq).2,fun hs=>(S.shr k hs).2 q ob hob hkq,fun o' ob2 hne ho2=>S.apart q o' ob ob2 hob ho2 (Ne.symm hne) k hkq⟩)
  refine qN (x:=.tuple #[]) (w':=w') ?_ ⟨sh,u,h',fp',S',trivial,(by intro p hp;cases hp),fun _ h=>.inl h,fun _ h=>h,fun _ h=>.inl h,hle',fun _ h=>h⟩;rw[yI ho hb,hargs];show((do pure (Next.value (<- Builtin.clear_ c.argTypes o.type #[vx])):Sem Next)).run P w=_
  have:(Builtin.clear_ c.argTypes o.type #[vx]).run P w = .ok (.tuple #[]) w':=by
   unfold Builtin.clear_;have h0:(#[vx]:Array Value)[0]? = some vx:=rfl;simp only[ht,h0];rw[zD (zZ hu),hvx];obtain⟨n',rfl⟩:∃n',n=n'+1:=⟨n - 1,by omega⟩;have hzv2:(zeroValue e).run P w = .ok zv w:=by simp[zeroValue,typeInfo,hi,hzv]
   simp only[];rw[zD hzv2,zD hrun]
   rfl
  rw[zD this];rfl
theorem zSb {cfg:Cfg} (C:CfgOK P cfg) (S:Sim w0 fa sh u h fp s a.tmps w) {o:Oper} {c:Go.Call} {t t':TypeId} {k:IntKind} {n:Int} {z:V} {id:Nat} (ho:o.op = .call c) (hb:c.callee = .builtin .append) (hx:kW s.env c.args.toList=some [.emp true,.int k n])
  (h0:c.argTypes[0]? = some t) (h1:c.argTypes[1]? = some t') (hzz:(cfg.elem t).bind cfg.zero=some z) (hti:(cfg.ints t').isSome=true) (hn:0<n) (hn2:n<zCe) (hid:¬u id) :
  Does P o a w (Turn w0 fa sh u h (s.new id ⟨false,false,z.cells,List.replicate n.toNat z,0⟩) a.tmps id (.ref id 0 n.toNat)):=by
 obtain⟨vx,vy,hargs,rx,ry,_,_⟩:=zDn S hx;rw[relS_int] at ry;subst ry;simp only[RelS,RelS0,Rel,List.cons.injEq,and_true] at rx;obtain⟨_,ad,c0,e0,hnl,hc0⟩:=rx;have hn0:ad=none:=by simpa using hnl
 have hcz:=hc0 hn0;subst e0;subst hn0;subst hcz
 obtain⟨e,he,hz⟩:∃e,cfg.elem t=some e/\cfg.zero e=some z:=by
  cases he:cfg.elem t with
  | none=>rw[he] at hzz;cases hzz
  | some e=>rw[he] at hzz;exact⟨e,rfl,hzz⟩
 obtain⟨kk,hkk⟩:=Option.isSome_iff_exists.1 hti;have hu:=C.elem t e he;have hu':=C.ints t' kk hkk;obtain⟨i,zv,d,hi,hzv,hsz,hpos,hby,_,_,_,hmen,hrel,_⟩:=C.zero e z hz;have r0:=hrel h sh w;have hl:=Rel.len r0;have hzs:zv.cells.size=z.cells:=by rw[<-hl];simp
 obtain⟨m,rfl⟩:∃m:Nat,n=m:=⟨n.toNat,by omega⟩;unfold zCe at hn2
 have hfit:m * i.bytes<=140737488355328:=by
  have h1:m * i.bytes<=m * 65536:=Nat.mul_le_mul_left _ hby;omega
 have run:=zMo (P:=P) (w:=w) (ty:=o.type) (k:=k) h0 h1 hu hu' hi hzv (n:=m) (by omega) (by omega) (by omega) hby (growslice_fits (by omega) hfit);have hcap:=grownCap_ge w m 0 e;have hflat:∀q,(Builtin.zeroCells zv.cells q).toList=(List.replicate q zv.cells.toList).flatten:=fun q=>zE3 (by omega) q
 simp only[Int.toNat_natCast];refine qN ?_ (vP (sh0:=sh) (u0:=u) S hid rfl (w1:=w.drew) (cs:=Builtin.zeroCells zv.cells m++Builtin.zeroCells zv.cells (grownCap w m 0 e - m)) (e:=e) ⟨rfl,rfl,rfl⟩ (ds:=(List.replicate m zv.cells.toList).flatten) (f:=[]) (RelX.replicate r0 hl) ?_ ⟨List.nodup_nil,fun _ h=>by cases h⟩ (c:=grownCap w m 0 e) (by simpa using hcap) ?_ ?_ hcap (fun _ h=>h) (fun _ h=>h) (Hs.Le.refl u h) (fun _ h=>h) (fun _ h=>.inl h))
 ·rw[yI ho hb,hargs]
  exact zD run
 ·apply List.eq_nil_iff_forall_not_mem.2
  intro q hq;obtain⟨x,hx,hq⟩:=mem_mentionL.1 hq;rw[List.eq_of_mem_replicate hx,hmen] at hq;cases hq
 ·rw[Array.toList_append,hflat,List.drop_left]
 ·simp only[Array.size_append,size_zeroCells]
  rw[hzs,<- Nat.add_mul];exact Nat.mul_le_mul_right _ (by omega)
theorem zO5 {cfg:Cfg} (C:CfgOK P cfg) (S:Sim w0 fa sh u h fp s a.tmps w) {ts:Array TypeId} {t t' ty:TypeId} (h0:ts[0]? = some t) (h1:ts[1]? = some t') (ht':(cfg.elem t').isSome=true) {id base:Nat} (hid:¬u id) {x y:V} {vx vy:Value}
  (rx:RelS h sh w x vx) (ry:RelS h sh w y vy) (hmx:∀o∈x.mention,u o) (hmy:∀o∈y.mention,u o) {v:V} {s':St} (hv:zBd cfg s t id base x y=some (v,s')) :
  ∃vr w',(Builtin.append_ ts ty #[vx,vy]).run P w = .ok vr w'/\Turn w0 fa sh u h s' a.tmps id v vr w':=by
 unfold zBd at hv;cases hzz:(cfg.elem t).bind cfg.zero with
 | none=>rw[hzz] at hv;cases hv
 | some z =>
  rw[hzz] at hv;simp only at hv
  obtain⟨e,he,hz⟩:∃e,cfg.elem t=some e/\cfg.zero e=some z:=by
   cases he:cfg.elem t with
   | none=>rw[he] at hzz;cases hzz
   | some e=>rw[he] at hzz;exact⟨e,rfl,hzz⟩
  obtain⟨e',he'⟩:=Option.isSome_iff_exists.1 ht';have hu:=C.elem t e he;have hu':=C.elem t' e' he';obtain⟨i,zv,d,hi,hzv,hsz,hpos,hby,_,_,_,_,hrel,_⟩:=C.zero e z hz;have hzs:zv.cells.size=z.cells:=by rw[<-Rel.len (hrel h sh w)];simp
  have hfit:∀n,n<zCe->n * i.bytes<=140737488355328:=by
   intro n hn;unfold zCe at hn;have h1:n * i.bytes<=n * 65536:=Nat.mul_le_mul_left _ hby;omega
  cases hel:s.elems base y with
  | none=>rw[hel] at hv;cases hv
  | some el =>
   rw[hel] at hv;simp only at hv;cases hba:el.2.base (x.asRow z.cells) with
   | none=>rw[hba] at hv;cases hv
   | some b =>
    rw[hba] at hv;simp only at hv;split at hv
    ·rename_i hc
     obtain⟨hbz,hca,hmax⟩:=hc;cases hv
     have nt:∀{q:V},q.isTup=false->∀{vq},RelS h sh w q vq->q≠.und->q.aggOf=none->Rel h sh w q [vq] []:=by
      intro q hq vq r hn ha
      have:=kN r hn hq
      cases q<;>first|(simp[V.aggOf] at ha;done)|exact r|exact absurd rfl hn|(simp[V.isTup] at hq;done)
     have hy1:y.isTup=false/\y≠.und/\y.aggOf=none:=by
      unfold St.elems at hel;split at hel<;>first|(cases hel;done)|exact⟨rfl,by simp,rfl⟩
     have hx1:x.isTup=false/\x≠.und/\x.aggOf=none:=by
      by_cases hxe:x = .emp true
      ·subst hxe;exact⟨rfl,by simp,rfl⟩
      ·rw[zK8 hxe] at hba
       unfold St.base at hba;split at hba<;>first|(cases hba;done)|exact⟨rfl,by simp,rfl⟩
     have ry':=nt hy1.1 ry hy1.2.1 hy1.2.2;have rx':=nt hx1.1 rx hx1.2.1 hx1.2.2;obtain⟨sh1,h1',fp1,f1,F1,hE,hm1⟩:=zG3 S ry' hel;have rx1:=Rel.asRow (k:=z.cells) (Rel.keep F1.le (fun b hb=>⟨F1.shs b hb,rfl⟩) rx' hmx (fun _ hb=>(by cases hb)));obtain⟨h2,fp2,f2,F2,rb,hm2⟩:=zHx F1.sim rx1 hba;have F:=F1.trans F2;have hshw:=F.shw S;obtain⟨ay,cy,hvy,hE⟩:=hE;simp only[List.cons.injEq,and_true] at hvy;subst hvy
     have hmm:V.mentionL (b.2.1++el.1)=[]:=by
      apply List.eq_nil_iff_forall_not_mem.2;intro q hq;obtain⟨k,hk,hq⟩:=mem_mentionL.1 hq;rcases List.mem_append.1 hk with hk|hk
      ·rw[jM hm2 k hk] at hq;cases hq
      ·rw[jM hm1 k hk] at hq;cases hq
     have hEl:∃ds,ds.length=el.1.length * z.cells/\(el.1=[]/\f1=[]/\ds=[]\/∃b off,ay=some ⟨b,off,none⟩/\At w b off ds)/\RelX h2 sh1 w z.cells el.1 ds f1:=by
      rcases hE with⟨e1,e2⟩|⟨b',off',z',ds,e1,hat,hL⟩
      ·exact⟨[],by rw[e1];simp,.inl ⟨e1,e2,rfl⟩,by rw[e1,e2];simp[RelX]⟩
      ·have hX:=RelX.recell (RelL.iff.1 hL).1 (vI hca)
       have hX2:RelX h2 sh1 w z.cells el.1 ds f1:=RelX.keep F2.goes hX (by rw[hm1];intro q hq;cases hq) (fun _ _=>rfl);exact⟨ds,RelX.len hX,.inr ⟨b',off',e1,hat⟩,hX2⟩
     obtain⟨ds,hdl,hat,hXe⟩:=hEl
     have hfy:∀w1:World,w1.heap=w.heap->(Builtin.firstCells i.size el.1.length (.slice ay el.1.length cy)).run P w1 = .ok ds.toArray w1:=by
      intro w1 hw1;rcases hat with⟨e1,_,e3⟩|⟨b',off',e1,hat⟩
      ·rw[e1,e3]
       unfold Builtin.firstCells;cases ay with
       | none=>rfl
       | some ad =>
        simp only[List.length_nil,Nat.zero_mul]
        rfl
      ·rw[e1]
       refine zDq (fun j v hj=>?_) (by rw[hdl,hsz])
       have:=hat j v hj
       simp only[World.cell?,hw1] at this ⊢;exact this
     have hl1:=F.loose;have hl2:=F2.loose;simp only[Rel,if_true,List.cons.injEq,and_true] at rb;rcases rb with⟨hb0,hf2,hvx⟩|⟨b',off',c,ds0,fps0,hvx,hf2,hlc,hrow,hat0,hL0⟩
     ·subst hvx
      rw[hb0] at hmm hmax ⊢;simp only[List.nil_append] at hmm hmax ⊢
      by_cases hn:el.1.length=0
      ·have he0:el.1=[]:=List.length_eq_zero_iff.1 hn
       obtain⟨h',fp',S',hle,hhd,_⟩:=F2.sim.newNil hid (sz:=z.cells);refine⟨.slice none 0 0,w,?_,sh1,_,h',fp',by rw[he0];exact S',?_,fun o ho=>?_,fun o ho=>Or.imp_right (fun e=>by omega) ho,F.shs,hshw,F.le.trans hle (fun _ h=>h),fun o ho=>.inl ho⟩
       ·have:=zBa (P:=P) (w:=w) (w':=w) (ty:=ty) (ad:=none) (sLen:=0) (sCap:=0) h0 h1 hu hu' hi (by omega) (hfy w rfl) rfl
        rw[hn] at this ⊢;exact this
       ·refine qV ?_ rfl (by intro e;cases e)
        simp only[Rel,hhd];exact⟨trivial,trivial,hn,trivial⟩
       ·simp only[V.mention,List.mem_singleton] at ho
        exact .inr ho
      ·have hcap:=grownCap_ge w (0+el.1.length) 0 e
       rw[Nat.zero_add] at hcap
       have run:=zA2 (P:=P) (w:=w) (ty:=ty) (ad:=none) (ay:=ay) (sLen:=0) (sCap:=0) (n:=el.1.length) (cy:=cy) (olds:=#[]) h0 h1 hu hu' hi hzv (by omega) (by unfold zCe at hmax;omega)
        (growslice_fits (by omega) (hfit _ (by omega))) rfl (hfy w.drew rfl)
       simp only[Nat.zero_add] at run;refine⟨_,_,run,?_⟩;refine vP F2.sim hid (w1:=w.drew) (ob:=⟨false,false,z.cells,el.1,0⟩) rfl ⟨rfl,rfl,rfl⟩ (ds:=ds) (f:=f1) hXe hmm (F.loose.sub (List.sublist_append_left ..)) hcap ?_ ?_ hcap (fun _ h=>h) (fun _ h=>h) F.le F.shs hshw
       ·simp
       ·simp only[Array.append_empty,Array.empty_append,Array.size_append,size_zeroCells,List.size_toArray,hdl]
        rw[hzs,<- Nat.add_mul];exact Nat.mul_le_mul_right _ (by omega)
     ·subst hvx
      rw[hbz] at hrow hL0;have hX0:=(RelL.iff.1 hL0).1;have hd0:=RelX.len hX0;have hnd:(f1++f2).Nodup:=F.loose.nd;rw[hf2] at hnd
      have hfl:Loose w0 fa sh1 b.2.2.obs fp2 w (fps0++f1):=by
       refine⟨?_,fun k hk=>F.loose.ok k ?_⟩
       ·have h3:=List.nodup_append.1 hnd
        have h4:=List.nodup_cons.1 h3.2.1;exact List.nodup_append.2 ⟨h4.2,h3.1,fun p hp q hq e=>h3.2.2 q hq p (List.mem_cons_of_mem _ hp) e.symm⟩
       ·rw[hf2]
        rcases List.mem_append.1 hk with hk|hk<;>simp[hk]
      have hbn:b' ∉ fps0++f1:=by
       have h3:=List.nodup_append.1 hnd;have h4:=List.nodup_cons.1 h3.2.1;intro hk;rcases List.mem_append.1 hk with hk|hk
       ·exact h4.1 hk
       ·exact h3.2.2 b' hk b' (List.mem_cons_self ..) rfl
      have hbl:=F.loose.ok b' (by rw[hf2];simp);have hXX:RelX h2 sh1 w z.cells (b.2.1++el.1) (ds0++ds) (fps0++f1):=RelX.append hX0 hXe;have hlapp:(b.2.1++el.1).length=b.2.1.length+el.1.length:=List.length_append
      by_cases hroom:b.2.1.length+el.1.length<=c
      ·have hfitc:off'+b.2.1.length * z.cells+ds.length<=off'+c * z.cells:=by
        rw[hdl,Nat.add_assoc,<- Nat.add_mul];exact Nat.add_le_add_left (Nat.mul_le_mul_right _ hroom) _
       obtain⟨w',hrun,hw,hcell⟩:=yT P b' (off'+b.2.1.length * z.cells) ds 0 w (off'+c * z.cells) hrow (by omega) (RelX.ones hXe)
       have run:=zBa (P:=P) (w:=w) (w':=w') (ty:=ty) (ad:=some ⟨b',off',none⟩) (ay:=ay) (cy:=cy) h0 h1 hu hu' hi hroom (hfy w rfl) (by
        simp only[yW];rw[hsz]
        exact hrun)
       refine⟨_,w',run,?_⟩;simp only[Nat.add_zero] at hcell;have hkeep:∀k,k≠b'->w'.heap[k]? = w.heap[k]?:=hw.other;have hX':RelX h2 sh1 w' z.cells (b.2.1++el.1) (ds0++ds) (fps0++f1):=RelX.keep ⟨Hs.Le.refl u h2,fun k hk=>⟨hk,hkeep k (fun e=>hbl.2.2.1 (e ▸ hk))⟩⟩ hXX (by rw[hmm];intro q hq;cases hq) (fun k hk=>hkeep k (fun e=>hbn (e ▸ hk)))
       have hat':At w' b' off' (ds0++ds):=by
        refine At.append.2 ⟨fun j k hj=>?_,fun j k hj=>?_⟩
        ·have:=(List.getElem?_eq_some_iff.1 hj).1
         rw[hcell,if_neg (by omega)];exact hat0 j k hj
        ·have:=(List.getElem?_eq_some_iff.1 hj).1
         rw[hcell,if_pos (by omega),<- hj]
         congr 1;omega
       obtain⟨h',fp',S',hle,hhd,_⟩:=F2.sim.newOb (w':=w') (b:=b') (off:=off') (c:=c) (ob:=⟨false,false,z.cells,b.2.1++el.1,0⟩) (ds:=ds0++ds) (fps:=fps0++f1) hid ⟨by rw[hw.size];exact Nat.le_refl _,hw.os,hw.out⟩ (fun k _ hk=>hkeep k hk)
        ⟨by rw[hw.size];exact hbl.1,hbl.2.1,hbl.2.2.1,hbl.2.2.2⟩ hw.row (by rw[hlapp];exact hroom) hX' hat' (fun k hk=>⟨fun _=>jM hmm k hk,by rw[jM hmm k hk];intro q hq;cases hq⟩) hbn hfl
       refine⟨sh1,_,h',fp',S',?_,fun o ho=>?_,fun o ho=>Or.imp_right (fun e=>by omega) ho,F.shs,hshw,F.le.trans hle (fun _ h=>h),fun o ho=>.inl ho⟩
       ·refine qV ?_ rfl (by intro e;cases e)
        simp only[Rel,hhd];refine⟨trivial,by rw[hlapp];omega,by rw[hlapp];simp⟩
       ·simp only[V.mention,List.mem_singleton] at ho
        exact .inr ho
      ·have hcap:=grownCap_ge w (b.2.1.length+el.1.length) c e
       have run:=zA2 (P:=P) (w:=w) (ty:=ty) (ad:=some ⟨b',off',none⟩) (ay:=ay) (cy:=cy) (olds:=ds0.toArray) h0 h1 hu hu' hi hzv hroom (by rw[hlapp] at hmax;unfold zCe at hmax;omega)
        (growslice_fits (by omega) (hfit _ (by rw[<-hlapp];exact hmax))) (zDq (At.drew hat0) (by rw[hd0,hsz])) (hfy w.drew rfl)
       refine⟨_,_,run,?_⟩;rw[hlapp];refine vP F2.sim hid (w1:=w.drew) (ob:=⟨false,false,z.cells,b.2.1++el.1,0⟩) rfl ⟨rfl,rfl,rfl⟩ (ds:=ds0++ds) (f:=fps0++f1) hXX hmm hfl (by rw[hlapp];exact hcap) ?_ ?_ hcap (fun _ h=>h) (fun _ h=>h) F.le F.shs hshw
       ·simp
       ·simp only[Array.size_append,size_zeroCells,List.size_toArray,hdl,hd0]
        rw[hzs,<- Nat.add_mul,<- Nat.add_mul];exact Nat.mul_le_mul_right _ (by omega)
    ·cases hv
end
section
variable {u : Nat->Prop} {h : Hs} {sh : Nat->Prop} {w w0 : World} {fa : List Nat} {fp : Nat->List Nat} {s : St} {tm : Array Value}
def zHu (sh:Nat->Prop) (s:St) (fp:Nat->List Nat) (b:Nat):Prop:=sh b\/∃o ob,zO s.obs o=some ob/\b∈fp o
mutual
theorem zEc (S:Sim w0 fa sh u h fp s tm w):∀{v v':V} {cs:List Value} {f:List Nat},Rel h sh w v cs f->(∀b∈f,zHu sh s fp b)->v.snap s=some v'->Rel h (zHu sh s fp) w v' cs []/\v'.mention=[]/\v'≠.und/\v'.isTup=false
 | .int ..,v',cs,f,r,_,hv=>by
  simp only[V.snap,Option.some.injEq] at hv;subst hv;simp only[Rel] at r ⊢;exact⟨⟨r.1,trivial⟩,rfl,by simp,rfl⟩
 | .bool _,v',cs,f,r,_,hv=>by
  simp only[V.snap,Option.some.injEq] at hv;subst hv;simp only[Rel] at r ⊢;exact⟨⟨r.1,trivial⟩,rfl,by simp,rfl⟩
 | .str _,v',cs,f,r,_,hv=>by
  simp only[V.snap,Option.some.injEq] at hv;subst hv;simp only[Rel] at r ⊢;exact⟨⟨r.1,trivial⟩,rfl,by simp,rfl⟩
 | .lst own sz xs,v',cs,f,r,hf,hv=>by
  simp only[V.snap,Option.some.injEq] at hv;subst hv
  have:=jH (sh':=zHu sh s fp) (fun b hb=>.inl hb) r hf
  simp only[V.share] at this;exact⟨this,rfl,by simp,rfl⟩
 | .emp _,v',cs,f,r,_,hv=>by
  simp only[V.snap,Option.some.injEq] at hv;subst hv;simp only[Rel,Bool.false_eq_true,if_false] at r ⊢;obtain⟨_,a,c,e,_,hc0⟩:=r;exact⟨⟨trivial,a,c,e,Nat.zero_le _,.inl ⟨trivial,hc0⟩⟩,rfl,by simp,rfl⟩
 | .agg xs,v',cs,f,r,hf,hv=>by
  simp only[V.snap] at hv;cases hx:V.snapL s xs with
  | none=>rw[hx] at hv;cases hv
  | some ys =>
   rw[hx] at hv;simp only[zJ,Option.some.injEq] at hv;subst hv;simp only[Rel] at r ⊢;obtain⟨r',hm⟩:=zCq S r hf hx;exact⟨r',hm,by simp,rfl⟩
 | .ref o lo n,v',cs,f,r,_,hv=>by
  simp only[V.snap,zMm] at hv;cases ho:zO s.obs o with
  | none=>rw[ho] at hv;cases hv
  | some ob =>
   rw[ho] at hv;simp only at hv;split at hv
   ·rename_i hc
    simp only[zJ,Option.some.injEq] at hv;subst hv;obtain⟨f',hs,rl,_⟩:=zBp S ho hc.1 hc.2 r
    have:=jH (sh':=zHu sh s fp) (fun b hb=>.inl hb) rl (fun b hb=>.inr ⟨o,ob,ho,hs.subset hb⟩)
    simp only[V.share] at this;exact⟨this,rfl,by simp,rfl⟩
   ·cases hv
 | .plc o i fs ver n,v',cs,f,r,_,hv=>by
  simp only[V.snap] at hv;cases ha:s.at o i fs ver n with
  | none=>rw[ha] at hv;cases hv
  | some a =>
   rw[ha] at hv;simp only[zJ,Option.some.injEq] at hv;subst hv;obtain⟨ho,hvv,hg,hn⟩:=zJi ha;obtain⟨b,off,c,d0,d2,f0,f1,f2,_,_,_,hfp,_,_,ry,_⟩:=zOk S ho hvv hg hn r
   have:=jH (sh':=zHu sh s fp) (fun b hb=>.inl hb) ry (fun b hb=>.inr ⟨o,_,ho,by rw[hfp];simp[hb]⟩)
   simp only[V.share] at this;exact⟨this,rfl,by simp,rfl⟩
 | .vptr x,v',cs,f,r,_,hv=>by
  simp only[V.snap,Option.some.injEq] at hv;subst hv
  have:=Rel.wide (sh':=zHu sh s fp) (fun b hb=>.inl hb) r
  simp only[Rel] at this ⊢;exact⟨⟨trivial,this.2⟩,rfl,by simp,rfl⟩
 | .ptr ..,v',cs,f,r,_,hv=>by simp[V.snap] at hv
 | .clo ..,v',cs,f,r,_,hv=>by simp[V.snap] at hv
 | .und,v',cs,f,r,_,hv=>by simp[V.snap] at hv
 | .tup _,v',cs,f,r,_,hv=>by simp[V.snap] at hv
 | .iol ..,v',cs,f,r,_,hv=>by simp[V.snap] at hv
 | .iop _,v',cs,f,r,_,hv=>by simp[V.snap] at hv
theorem zCq (S:Sim w0 fa sh u h fp s tm w):∀{xs ys:List V} {cs:List Value} {f:List Nat},RelA h sh w xs cs f->(∀b∈f,zHu sh s fp b)->V.snapL s xs=some ys->RelA h (zHu sh s fp) w ys cs []/\V.mentionL ys=[]
 | [],ys,cs,f,r,_,hv=>by
  simp only[V.snapL,Option.some.injEq] at hv;subst hv;simp only[RelA] at r ⊢;exact⟨⟨r.1,trivial⟩,rfl⟩
 | x::q,ys,cs,f,r,hf,hv=>by
  simp only[V.snapL] at hv;cases hx:x.snap s with
  | none=>rw[hx] at hv;cases hv
  | some a =>
   rw[hx] at hv;simp only at hv;cases hq:V.snapL s q with
   | none=>rw[hq] at hv;cases hv
   | some b =>
    rw[hq] at hv;simp only[zJ,Option.some.injEq] at hv;subst hv;simp only[RelA] at r ⊢;obtain⟨c1,c2,f1,f2,e,ef,r1,r2⟩:=r;subst ef;obtain⟨k1,k2,_⟩:=zEc S r1 (fun b hb=>hf b (List.mem_append_left _ hb)) hx;obtain⟨j1,j2⟩:=zCq S r2 (fun b hb=>hf b (List.mem_append_right _ hb)) hq;exact⟨⟨c1,c2,[],[],e,rfl,k1,j1⟩,by simp only[V.mentionL,k2,j2,List.append_nil]⟩
end
theorem zCs (S:Sim w0 fa sh u h fp s tm w) {v v':V} {cs:List Value} (r:Rel h sh w v cs []) (hv:v.snapP s=some v'):Rel h (zHu sh s fp) w v' cs []/\v'.mention=[]/\v'≠.und/\v'.isTup=false:=by
 unfold V.snapP at hv;split at hv
 ·rename_i o i fs
  cases ho:zO s.obs o with
  | none=>rw[ho] at hv;cases hv
  | some ob =>
   rw[ho] at hv;simp only at hv;cases hg:ob.get i fs with
   | none=>rw[hg] at hv;cases hv
   | some x =>
    rw[hg] at hv;simp only at hv;split at hv
    case isFalse=>cases hv
    cases hx:x.snap s with
    | none=>rw[hx] at hv;cases hv
    | some y =>
     rw[hx] at hv;simp only[zJ,Option.some.injEq] at hv;subst hv;simp only[Rel] at r;obtain⟨_,b,off,c,z,hd,e⟩:=r;obtain⟨b',off',c',z',d0,d1,d2,f0,f1,f2,hd',_,_,_,hfp,hat,_,hl0,ry,_,_⟩:=S.place ho hg;rw[hd] at hd';simp only[Option.some.injEq,Prod.mk.injEq] at hd';obtain⟨rfl,rfl,rfl,rfl⟩:=hd';obtain⟨k1,k2,_⟩:=zEc S ry (fun b' hb'=>.inr ⟨o,ob,ho,by rw[hfp];simp[hb']⟩) hx;refine⟨?_,rfl,by simp,rfl⟩;simp only[Rel];refine⟨trivial,b,off+h.ofs o i fs,d1,e,.inr ⟨o,ob,ho,by rw[hfp];simp⟩,?_,k2,k1⟩;rw[<-hl0];exact(At.append.1 (At.append.1 hat).2).1
 ·exact zEc S r (fun b hb=>by cases hb) hv
theorem zF1 (S:Sim w0 fa sh u h fp s tm w):∀{xs ys:List V} {vs:List Value},RelC h sh w xs vs->V.snapPL s xs=some ys->RelC h (zHu sh s fp) w ys vs/\V.mentionL ys=[]
 | [],ys,vs,r,hv=>by
  simp only[V.snapPL,Option.some.injEq] at hv;subst hv;simp only[RelC] at r ⊢;exact⟨r,rfl⟩
 | x::q,ys,vs,r,hv=>by
  simp only[V.snapPL] at hv;cases hx:x.snapP s with
  | none=>rw[hx] at hv;cases hv
  | some a =>
   rw[hx] at hv;simp only at hv;cases hq:V.snapPL s q with
   | none=>rw[hq] at hv;cases hv
   | some b =>
    rw[hq] at hv;simp only[zJ,Option.some.injEq] at hv;subst hv;simp only[RelC] at r ⊢;obtain⟨v,p,e,r1,r2⟩:=r;obtain⟨k1,k2,_⟩:=zCs S r1 hx;obtain⟨j1,j2⟩:=zF1 S r2 hq;exact⟨⟨v,p,e,k1,j1⟩,by simp only[V.mentionL,k2,j2,List.append_nil]⟩
theorem zQv {v:V} {x:Value} (r:RelS h sh w v x) (hu:v≠.und) (ht:v.isTup=false) (ha:v.aggOf=none):Rel h sh w v [x] []:=by
 cases v<;>first|exact r|exact absurd rfl hu|(simp[V.isTup] at ht;done)|(simp[V.aggOf] at ha;done)
theorem zO0 (S:Sim w0 fa sh u h fp s tm w) {v v':V} {x:Value} (r:RelS h sh w v x) (hu:v≠.und) (hv:v.snapA s=some v'):RelS h (zHu sh s fp) w v' x/\v'.mention=[]/\v'≠.und/\v'.isTup=false:=by
 unfold V.snapA at hv;split at hv
 ·rename_i f cs
  cases hc:V.snapPL s cs with
  | none=>rw[hc] at hv;cases hv
  | some ds =>
   rw[hc] at hv;simp only[zJ,Option.some.injEq] at hv;subst hv;simp only[RelS,RelS0,Rel,List.cons.injEq,and_true] at r ⊢;obtain⟨_,vs,e,rc⟩:=r;obtain⟨k1,k2⟩:=zF1 S rc hc;exact⟨⟨trivial,vs,e,k1⟩,k2,by simp,rfl⟩
 ·rename_i hnc
  have ht:v.isTup=false:=by
   cases v<;>first|rfl|(simp[V.snapP,V.snap] at hv)
  have rc:=kN r hu ht;obtain⟨k0,k2,k3,k4⟩:=zCs S rc hv;refine⟨?_,k2,k3,k4⟩;cases hva:v.aggOf with
  | some xs =>
   have:=yJ hva
   subst this;simp only[V.snapP,V.snap] at hv;cases hx:V.snapL s xs with
   | none=>rw[hx] at hv;cases hv
   | some ys =>
    rw[hx] at hv;simp only[zJ,Option.some.injEq] at hv;subst hv;simp only[RelS,RelS0] at r ⊢;obtain⟨cs,e,_⟩:=r;subst e;simp only[Rel,Value.cells] at k0;exact⟨cs,rfl,k0⟩
  | none =>
   have k1:=(zCs S (zQv r hu ht hva) hv).1
   have hna:v'.aggOf=none:=by
    cases hv'a:v'.aggOf with
    | none=>rfl
    | some ys =>
     exfalso
     unfold V.snapP at hv;split at hv
     ·cases hg:zO s.obs _ with
      | none=>rw[hg] at hv;cases hv
      | some ob =>
       rw[hg] at hv;simp only at hv;split at hv
       ·cases hv
       ·rename_i y _
        split at hv
        case isFalse=>cases hv
        cases hy:y.snap s with
        | none=>rw[hy] at hv;cases hv
        | some q=>rw[hy] at hv;simp only[zJ,Option.some.injEq] at hv;subst hv;cases hv'a
     ·cases v<;>simp[V.snap,V.aggOf] at hv hva
      all_goals first
       | (subst hv;cases hv'a;done)
       | skip
      ·cases hr:zMm s.obs _ _ _ with
       | none=>rw[hr] at hv;cases hv
       | some q=>rw[hr] at hv;simp only[zJ,Option.some.injEq] at hv;subst hv;cases hv'a
      ·cases hr:s.at _ _ _ _ _ with
       | none=>rw[hr] at hv;cases hv
       | some q=>rw[hr] at hv;simp only[zJ,Option.some.injEq] at hv;subst hv;cases hv'a
   exact qV k1 hna k3
end
end Go.Proofs.YtbcgenkegnmkhaaGreat.Ev
namespace Go.Proofs.YtbcgenkegnmkhaaGreat.Ev
open Go
set_option linter.unusedSectionVars false
set_option linter.unusedSimpArgs false
def ArgR (h:Hs) (sh:Nat->Prop) (w:World) (v:V) (x:Value) (f:List Nat):Prop :=
 match v with
 | .lst true sz xs=>Rel h sh w (.lst true sz xs) [x] f
 | .iol sz xs=>Rel h sh w (.lst true sz xs) [x] f
 | .iop y=>∃b off ds fps,x = .pointer (some ⟨b,off,none⟩)/\f=b::fps/\Row w b (off+y.cells)/\At w b off ds/\Rel h sh w y ds fps/\y.mention=[]
 | v=>f=[]/\v.mention=[]/\v≠.und/\v.isTup=false/\RelS h sh w v x
def ArgsR (h:Hs) (sh:Nat->Prop) (w:World):List V->List Value->List Nat->Prop
 | [],xs,f=>xs=[]/\f=[]
 | v::r,xs,f=>∃x q f1 f2,xs=x::q/\f=f1++f2/\ArgR h sh w v x f1/\ArgsR h sh w r q f2
def OutsR (h:Hs) (sh:Nat->Prop) (w:World):List V->List Value->List V->List Nat->Prop
 | [],_,outs,f=>outs=[]/\f=[]
 | v::r,xs,outs,f=>match v with
  | .iol sz _=>∃x q ys o f1 f2,xs=x::q/\outs = .lst true sz ys::o/\f=f1++f2/\V.mentionL ys=[] /\
    (x = .slice none 0 0/\ys=[]/\f1=[]\/∃b off n c ds fps,x = .slice (some ⟨b,off,none⟩) n c/\f1=b::fps/\ys.length<=c/\Row w b (off+c * sz)/\At w b off ds/\RelX h sh w sz ys ds fps)/\OutsR h sh w r q o f2
  | .iop _=>∃x q y o f1 f2,xs=x::q/\outs=y::o/\f=f1++f2/\y.mention=[] /\
    (∃b off ds fps,x = .pointer (some ⟨b,off,none⟩)/\f1=b::fps/\Row w b (off+y.cells)/\At w b off ds/\Rel h sh w y ds fps)/\OutsR h sh w r q o f2
  | _=>∃x q,xs=x::q/\OutsR h sh w r q outs f
def zT8 (h:Hs) (sh:Nat->Prop) (w:World) (v:V) (x:Value) (f:List Nat):Prop :=
 v.mention=[]/\match v with
 | .agg xs=>∃cs,x = .agg cs/\RelA h sh w xs cs.toList f
 | v=>Rel h sh w v [x] f
def zIx (h:Hs) (sh:Nat->Prop) (w:World):List V->List Value->List Nat->Prop
 | [],xs,f=>xs=[]/\f=[]
 | v::r,xs,f=>∃x q f1 f2,xs=x::q/\f=f1++f2/\zT8 h sh w v x f1/\zIx h sh w r q f2
def zO1 (h:Hs) (sh:Nat->Prop) (w:World) (v:V) (x:Value) (f:List Nat):Prop :=
 match v with
 | .tup vs=>∃xs,x = .tuple xs/\zIx h sh w vs xs.toList f
 | v=>zT8 h sh w v x f
structure Left (h:Hs) (sh:Nat->Prop) (w:World) (fps:List Nat) (args:List V) (reals:List Value) (v:V) (outs:List V) (x:Value) (w':World) (h':Hs) (sh':Nat->Prop) (fr fo:List Nat):Prop where
 ret:zO1 h' sh' w' v x fr
 out:OutsR h' sh' w' args reals outs fo
 nd:(fr++fo).Nodup
 own:∀b∈fr++fo,b<w'.heap.size/\(b<w.heap.size->b∈fps)/\¬sh' b
 size:Grew w w'
 old:∀b,b<w.heap.size->b ∉ fps->w'.heap[b]? = w.heap[b]?
 shs:∀b,sh b->sh' b
 shn:∀b,sh' b->b<w'.heap.size/\(sh b\/(b<w.heap.size->b∈fps))
def qJr (h:Hs) (sh:Nat->Prop) (w:World) (fps:List Nat) (args:List V) (reals:List Value) (v:V) (outs:List V) (e:Ending) (w':World):Prop :=
 ∃x,e = .returned x/\∃h' sh' fr fo,Left h sh w fps args reals v outs x w' h' sh' fr fo
def jP (P:Program) (call:Call):Prop :=
 ∀f args v outs,call f args=some (v,outs)->(∃fn,P.funcs[f]? = some fn/\fn.body.isSome=true/\(fn.name=="runtime.NumGoroutine")=false) /\
  ∀h sh w reals fps,ArgsR h sh w args reals fps->fps.Nodup->(∀b∈fps,b<w.heap.size/\¬sh b)->(∀b,sh b->b<w.heap.size)->Calls P f reals.toArray w (qJr h sh w fps args reals v outs)
section
variable {u : Nat->Prop} {h : Hs} {sh : Nat->Prop} {w w0 : World} {fa : List Nat} {fp : Nat->List Nat} {s : St} {tm : Array Value}
def ValsR (h:Hs) (sh u:Nat->Prop) (w:World):List V->List Value->Prop
 | [],xs=>xs=[]
 | v::r,xs=>∃x q,xs=x::q/\RelS h sh w v x/\(∀o∈v.mention,u o)/\v≠.und/\ValsR h sh u w r q
theorem ValsR.keep {h':Hs} {sh':Nat->Prop} {w':World} (g:Goes u h sh w h' sh' w'):∀{vs:List V} {xs:List Value},ValsR h sh u w vs xs->ValsR h' sh' u w' vs xs
 | [],xs,r=>r
 | v::r,xs,hr=>by
  simp only[ValsR] at hr ⊢;obtain⟨x,q,e,r1,m1,n1,r2⟩:=hr;exact⟨x,q,e,r1.keep g m1,m1,n1,ValsR.keep g r2⟩
def LentR (h:Hs) (sh u:Nat->Prop) (w:World):List Md->List V->List Value->List Nat->Prop
 | _,[],xs,f=>xs=[]/\f=[]
 | ms,v::r,xs,f=>∃x q f1 f2,xs=x::q/\f=f1++f2/\(match ms.headD .snap with
   | .snap=>f1=[]/\RelS h sh w v x/\(∀o∈v.mention,u o)/\v≠.und
   | _=>ArgR h sh w v x f1)/\LentR h sh u w ms.tail r q f2
theorem ArgR.keep {h':Hs} {sh':Nat->Prop} {w':World} (g:Goes (fun _=>False) h sh w h' sh' w') {v:V} {x:Value} {f:List Nat} (r:ArgR h sh w v x f) (hf:∀b∈f,w'.heap[b]? = w.heap[b]?):ArgR h' sh' w' v x f:=by
 unfold ArgR at r ⊢;split at r
 ·exact Rel.keep g.le g.sh r (by intro q hq;cases hq) hf
 ·exact Rel.keep g.le g.sh r (by intro q hq;cases hq) hf
 ·obtain⟨b,off,ds,fps,e,rfl,hrow,hat,r,hm⟩:=r
  have hb:=hf b (List.mem_cons_self ..);exact⟨b,off,ds,fps,e,rfl,hrow.same hb,hat.same hb,Rel.keep g.le g.sh r (by rw[hm];intro q hq;cases hq) (fun k hk=>hf k (List.mem_cons_of_mem _ hk)),hm⟩
 ·obtain⟨e,hm,h1,h2,r⟩:=r
  exact⟨e,hm,h1,h2,r.keep g (by rw[hm];intro q hq;cases hq)⟩
theorem Goes.none {h':Hs} {sh':Nat->Prop} {w':World} (hs:∀b,sh b->sh' b/\w'.heap[b]? = w.heap[b]?):Goes (fun _=>False) h sh w h' sh' w' :=
 ⟨⟨fun _ h=>h.elim,fun _ h=>h.elim,fun _ h=>h.elim,fun _ h=>h.elim,fun _ h=>h.elim⟩,hs⟩
theorem LentR.keep {h':Hs} {sh':Nat->Prop} {w':World} (g:Goes u h sh w h' sh' w'):∀{ms:List Md} {vs:List V} {xs:List Value} {f:List Nat},LentR h sh u w ms vs xs f->(∀b∈f,w'.heap[b]? = w.heap[b]?)->LentR h' sh' u w' ms vs xs f
 | _,[],xs,f,r,_=>r
 | ms,v::q,xs,f,r,hf=>by
  simp only[LentR] at r ⊢;obtain⟨x,p,f1,f2,e,rfl,r1,r2⟩:=r;refine⟨x,p,f1,f2,e,rfl,?_,LentR.keep g r2 (fun b hb=>hf b (List.mem_append_right _ hb))⟩;split at r1
  ·exact⟨r1.1,r1.2.1.keep g r1.2.2.1,r1.2.2.1,r1.2.2.2⟩
  ·exact r1.keep (Goes.none g.sh) (fun b hb=>hf b (List.mem_append_left _ hb))
end
structure BackR (u:Nat->Prop) (h:Hs) (o:Nat) (ob:Ob) (x:Value):Prop where
 use:u o
 ver:h.vr o=ob.ver
 ofs:∀i y fs z,ob.xs[i]? = some y->kS y fs=some z->h.ofs o i fs=i * ob.sz+zB1 y fs
 row:ob.bx=false->match h.hd o with
  | none=>x = .slice none 0 0/\ob.xs=[]
  | some (b,off,c,z)=>z=ob.sz/\x = .slice (some ⟨b,off,none⟩) ob.xs.length c
 box:ob.bx=true->∃b off,h.hd o=some (b,off,1,ob.sz)/\x = .pointer (some ⟨b,off,none⟩)/\∃y,ob.xs=[y]/\y.cells=ob.sz
theorem BackR.keep {u:Nat->Prop} {h h':Hs} {o:Nat} {ob:Ob} {x:Value} (r:BackR u h o ob x) (hl:h.Le u h') (hv:h'.vr o=h.vr o):BackR u h' o ob x:=by
 refine⟨r.use,hv.trans r.ver,?_,?_,?_⟩
 ·rw[hl.ofs o r.use];exact r.ofs
 ·rw[hl.hd o r.use];exact r.row
 ·rw[hl.hd o r.use];exact r.box
section
variable {u : Nat->Prop} {h : Hs} {sh : Nat->Prop} {w w0 : World} {fa : List Nat} {fp : Nat->List Nat} {s : St} {tm : Array Value}
mutual
theorem zTf:∀{v:V} {cs:List Value} {f:List Nat},v.bare=true->Rel h sh w v cs f->f=[]
 | .lst own sz xs,cs,f,hb,r=>by
  simp only[V.bare,Bool.not_eq_true'] at hb;subst hb;simp only[Rel,Bool.false_eq_true,if_false] at r;exact r.1
 | .agg xs,cs,f,hb,r=>by
  simp only[V.bare] at hb;simp only[Rel] at r;exact zR4 hb r
 | .int ..,cs,f,hb,r=>by simp only[Rel] at r;exact r.2
 | .bool _,cs,f,hb,r=>by simp only[Rel] at r;exact r.2
 | .str _,cs,f,hb,r=>by simp only[Rel] at r;exact r.2
 | .emp _,cs,f,hb,r=>by simp[V.bare] at hb
 | .ref ..,cs,f,hb,r=>by simp[V.bare] at hb
 | .plc ..,cs,f,hb,r=>by simp[V.bare] at hb
 | .ptr ..,cs,f,hb,r=>by simp[V.bare] at hb
 | .vptr _,cs,f,hb,r=>by simp[V.bare] at hb
 | .clo ..,cs,f,hb,r=>by simp[V.bare] at hb
 | .und,cs,f,hb,r=>by simp[V.bare] at hb
 | .tup _,cs,f,hb,r=>by simp[V.bare] at hb
 | .iol ..,cs,f,hb,r=>by simp[V.bare] at hb
 | .iop _,cs,f,hb,r=>by simp[V.bare] at hb
theorem zR4:∀{xs:List V} {cs:List Value} {f:List Nat},V.bareL xs=true->RelA h sh w xs cs f->f=[]
 | [],cs,f,hb,r=>by simp only[RelA] at r;exact r.2
 | x::q,cs,f,hb,r=>by
  simp only[V.bareL,Bool.and_eq_true] at hb;simp only[RelA] at r;obtain⟨c1,c2,f1,f2,e,ef,r1,r2⟩:=r;rw[ef,zTf hb.1 r1,zR4 hb.2 r2];rfl
end
def BacksR (u:Nat->Prop) (h:Hs):List V->List Value->List (Nat×Ob)->Prop
 | [],_,bs=>bs=[]
 | v::r,xs,bs=>match v with
  | .iol sz ys=>∃x q p t,xs=x::q/\bs=p::t/\BackR u h p.1 p.2 x/\p.2.bx=false/\p.2.sz=sz/\p.2.xs=ys/\BacksR u h r q t
  | .iop _=>∃x q p t,xs=x::q/\bs=p::t/\BackR u h p.1 p.2 x/\p.2.bx=true/\BacksR u h r q t
  | _=>∃x q,xs=x::q/\BacksR u h r q bs
theorem zTb {v:V} {x:Value} {f:List Nat} (hok:v.argOk=true) (hr:Rel h sh w v x.cells.toList f) (hm:v.mention=[]) (hx:v.aggOf=none->x.cells.toList=[x]) (hxa:∀xs,v = .agg xs->∃cs,x = .agg cs):ArgR h sh w v x f:=by
 unfold V.argOk at hok;split at hok
 ·rw[hx rfl] at hr
  exact hr
 ·rename_i hnl
  have hf:=zTf hok hr;subst hf;cases v with
  | int k n=>rw[hx rfl] at hr;exact⟨rfl,hm,by simp,rfl,hr⟩
  | bool b=>rw[hx rfl] at hr;exact⟨rfl,hm,by simp,rfl,hr⟩
  | str b=>rw[hx rfl] at hr;exact⟨rfl,hm,by simp,rfl,hr⟩
  | lst own sz xs =>
   cases own
   ·rw[hx rfl] at hr;exact⟨rfl,hm,by simp,rfl,hr⟩
   ·exact absurd rfl (hnl sz xs)
  | agg xs =>
   obtain⟨cs,rfl⟩:=hxa xs rfl;refine⟨rfl,hm,by simp,rfl,?_⟩;simp only[RelS,RelS0];simp only[Rel,Value.cells] at hr;exact⟨cs,rfl,hr⟩
  | _=>simp[V.bare] at hok
theorem zDe {v:V} {x:Value} (r:RelS h sh w v x) (hu:v≠.und) (ht:v.isTup=false) (ha:v.aggOf=none):x.cells.toList=[x]:=by
 have ho:=Rel.ones (zQv r hu ht ha) ha;cases x<;>first|exact ho.elim|rfl
theorem Loose.perm {obs:List (Nat×Ob)} {f g:List Nat} (l:Loose w0 fa sh obs fp w f) (hp:f.Perm g):Loose w0 fa sh obs fp w g :=
 ⟨hp.nodup l.nd,fun b hb=>l.ok b (hp.mem_iff.2 hb)⟩
theorem zV4 (S:Sim w0 fa sh u h fp s tm w) {o:Nat} {ob:Ob} (ho:zO s.obs o=some ob) {x:Value}
  (hrow:ob.bx=false->match h.hd o with|none=>x = .slice none 0 0|some (b,off,c,z)=>x = .slice (some ⟨b,off,none⟩) ob.xs.length c)
  (hbox:ob.bx=true->ob.fx=false/\∃b off c z,h.hd o=some (b,off,c,z)/\x = .pointer (some ⟨b,off,none⟩)/\∃y,ob.xs=[y]):BackR u h o ob x:=by
 obtain⟨hu,R⟩:=S.obs o ob ho;have hr:=R.row;refine⟨hu,R.ver,fun i y fs z=>R.ofs i y fs z,fun hb=>?_,fun hb=>?_⟩
 ·have:=hrow hb
  cases hd:h.hd o with
  | none=>rw[hd] at hr this;exact⟨this,hr.1⟩
  | some p =>
   obtain⟨b,off,c,z⟩:=p;rw[hd] at hr this;exact⟨hr.1,this⟩
 ·obtain⟨hfx,b,off,c,z,hd,hx,y,hy⟩:=hbox hb
  have hc:=R.one hb hfx b off c z hd;subst hc;rw[hd] at hr;obtain⟨hz,_,_,ds,fps,_,_,hX⟩:=hr;subst hz;rw[hy] at hX;simp only[RelX] at hX;obtain⟨c1,c2,f1,f2,_,_,el,r1,_⟩:=hX;exact⟨b,off,hd,hx,y,hy,by rw[<-Rel.len r1,el]⟩
theorem zKr (S:Sim w0 fa sh u h fp s tm w) {v:V} {x:Value} {r:V×St×List (Nat×Ob)} (rx:RelS h sh w v x) (hm:∀o∈v.mention,u o) (hn:v≠.und) (hl:qU s .take v=some r) :
  ∃h' fp' f,Freed w0 fa sh u h fp s sh h' fp' r.2.1 tm w f (fun _=>True)/\ArgR h' sh w r.1 x f/\r.2.2=[]:=by
 simp only[qU] at hl;cases hf:v.fz s with
 | none=>rw[hf] at hl;cases hl
 | some a =>
  rw[hf] at hl;simp only at hl;split at hl
  ·rename_i hok
   cases hl;have ht:=zAd hf;have rc:=kN rx hn ht;obtain⟨h',fp',f,F,hr,hmm⟩:=zDm S rc hm hf;refine⟨h',fp',f,F.mono (fun _ _=>trivial),zTb hok hr hmm ?_ ?_,rfl⟩
   ·intro ha
    have:=yS (zDk (vM v) hf) ha
    exact zDe rx hn ht this
   ·intro xs e
    have h1:=zDk (vM v) hf;cases v with
    | agg ys =>
     simp only[RelS,RelS0] at rx;obtain⟨cs,e,_⟩:=rx;exact⟨cs,e⟩
    | _=>rw[e] at h1;simp[V.alike,V.aggOf] at h1
  ·cases hl
theorem zSp (S:Sim w0 fa sh u h fp s tm w) {v:V} {x:Value} {r:V×St×List (Nat×Ob)} (rx:RelS h sh w v x) (hl:qU s .io v=some r) :
  ∃h' fp' f o ob,Freed w0 fa sh u h fp s sh h' fp' r.2.1 tm w f (fun _=>True)/\ArgR h' sh w r.1 x f/\r.2.2=[(o,ob)]/\BackR u h' o ob x/\zO s.obs o=some ob/\zO r.2.1.obs o=none /\
   (ob.bx=false/\r.1 = .iol ob.sz ob.xs\/ob.bx=true/\∃y,r.1 = .iop y):=by
 simp only[qU] at hl;split at hl
 ·rename_i o lo n
  cases ho:zO s.obs o with
  | none=>rw[ho] at hl;cases hl
  | some ob =>
   rw[ho] at hl;simp only at hl;split at hl
   ·rename_i hc
    obtain⟨hbx,rfl,hn⟩:=hc;cases hl;have rx':Rel h sh w (.ref o 0 n) [x] []:=rx;obtain⟨f,hs,hr,_⟩:=zBp S ho hbx (by omega) rx';refine⟨h,fp,f,o,ob,(S.freeOb ho hs).mono (fun _ _=>trivial),?_,rfl,zV4 S ho (fun _=>?_) (fun hb=>by rw[hbx] at hb;cases hb),ho,qS,.inl ⟨hbx,rfl⟩⟩
    ·have:(ob.xs.drop 0).take n=ob.xs:=by rw[hn];simp
     rw[this] at hr;exact hr
    ·simp only[Rel] at rx'
     obtain⟨_,rx'⟩:=rx';split at rx'
     ·rename_i hd;rw[hd];simpa using rx'.2.2
     ·rename_i b off c z hd
      rw[hd]
      have:=rx'.2
      simp only[Nat.zero_mul,Nat.add_zero,Nat.sub_zero,List.cons.injEq,and_true] at this;rw[this,hn]
   ·cases hl
 ·rename_i o i fs
  cases ho:zO s.obs o with
  | none=>rw[ho] at hl;cases hl
  | some ob =>
   rw[ho] at hl;simp only at hl;split at hl
   ·rename_i y hy
    split at hl
    ·rename_i hc
     obtain⟨hbx,hfx,rfl,hfs⟩:=hc;have hfs':fs=[]:=List.isEmpty_iff.1 hfs;subst hfs';have rx':Rel h sh w (.ptr o 0 []) [x] []:=rx;simp only[Rel,List.cons.injEq,and_true,true_and] at rx';obtain⟨b,off,c,z,hd,hx⟩:=rx';have R:=(S.obs o ob ho).2;have hofs:=R.ofs 0 y [] y (by rw[hy];rfl) rfl;have h0:h.ofs o 0 []=0:=by rw[hofs];cases y<;>simp[zB1]
     rw[h0,Nat.add_zero] at hx;have hB:=zV4 S ho (x:=x) (fun hb=>by rw[hbx] at hb;cases hb) (fun _=>⟨hfx,b,off,c,z,hd,hx,y,hy⟩);have hc:=R.one hbx hfx b off c z hd;subst hc;have hr:=R.row;rw[hd] at hr;obtain⟨hz,_,hrow,ds,fps,hfp,hat,hX⟩:=hr;subst hz;rw[hy] at hX;simp only[RelX] at hX;obtain⟨c1,c2,f1,f2,e1,e2,el,r1,rfl,rfl⟩:=hX;simp only[List.append_nil] at e1 e2;subst e1;subst e2;have F:=S.freeOb ho (f:=b::fps) (by rw[hfp];exact List.Sublist.refl _);have hyu:∀q∈y.mention,u q:=(R.men y (by rw[hy];exact List.mem_singleton.2 rfl)).2;cases hz:y.fzI { s with obs:=kT s.obs o } with
     | none=>rw[hz] at hl;cases hl
     | some a =>
      rw[hz] at hl;cases hl;obtain⟨h',fp',f',L,ra,na,la⟩:=zHb (k:=[b]) F.sim r1 hyu (F.loose.perm (List.perm_append_comm (l₁:=[b]))) hz
      have hdel:∀q ob1,zO (kT s.obs o) q=some ob1->zO s.obs q=some ob1:=by
       intro q ob1 hq
       by_cases e:q=o
       ·subst e;rw[qS] at hq;cases hq
       ·rw[qT e] at hq;exact hq
      refine⟨h',fp',b::f',o,ob,⟨L.sim,L.le,fun _ h=>h,fun _ h=>.inl h,L.env,L.nxt,fun q ob1 hq=>?_,fun b1 hb1=>?_,la.perm (List.perm_append_comm (l₂:=[b])),fun _ hn=>absurd trivial hn,fun q hq=>?_⟩,?_,rfl,hB.keep L.le (L.vrn o qS),ho,L.absent qS,.inr ⟨hbx,_,rfl⟩⟩
      ·obtain⟨ob0,g0,g1⟩:=L.sub q ob1 hq
       exact⟨ob0,hdel q ob0 g0,g1⟩
      ·rcases List.mem_cons.1 hb1 with rfl|hb1
       ·exact⟨o,ob,ho,by rw[hfp];exact List.mem_cons_self ..⟩
       ·rcases L.src b1 hb1 with hb1|⟨q,ob1,hq,hm⟩
        ·exact⟨o,ob,ho,by rw[hfp];exact List.mem_cons_of_mem _ hb1⟩
        ·exact⟨q,ob1,hdel q ob1 hq,hm⟩
      ·refine L.vrn q ?_
       by_cases e:q=o
       ·subst e;exact qS
       ·rw[qT e];exact hq
      ·have hcells:a.1.cells=ob.sz:=by rw[<-qK (zHm (old:=.und) hz),<- Rel.len r1,el]
       refine⟨b,off,_,f',hx,rfl,?_,hat,ra,na⟩;rw[hcells]
       simpa using hrow
    ·cases hl
   ·cases hl
 ·cases hl
end
end Go.Proofs.YtbcgenkegnmkhaaGreat.Ev
namespace Go.Proofs.YtbcgenkegnmkhaaGreat.Ev
open Go
set_option linter.unusedSectionVars false
set_option linter.unusedSimpArgs false
section
variable {u : Nat->Prop} {h : Hs} {sh : Nat->Prop} {w w0 : World} {fa : List Nat} {fp : Nat->List Nat} {s : St} {tm : Array Value}
theorem BacksR.keep {h':Hs} (hl:h.Le u h'):∀{vs:List V} {xs:List Value} {bs:List (Nat×Ob)},BacksR u h vs xs bs->(∀p∈bs,h'.vr p.1=h.vr p.1)->BacksR u h' vs xs bs
 | [],xs,bs,r,_=>r
 | v::q,xs,bs,r,hv=>by
  unfold BacksR at r ⊢;split at r
  ·obtain⟨x,p,b,t,e1,rfl,r1,r2,r3,r4,r5⟩:=r
   exact⟨x,p,b,t,e1,rfl,r1.keep hl (hv b (List.mem_cons_self ..)),r2,r3,r4,BacksR.keep hl r5 (fun k hk=>hv k (List.mem_cons_of_mem _ hk))⟩
  ·obtain⟨x,p,b,t,e1,rfl,r1,r2,r5⟩:=r
   exact⟨x,p,b,t,e1,rfl,r1.keep hl (hv b (List.mem_cons_self ..)),r2,BacksR.keep hl r5 (fun k hk=>hv k (List.mem_cons_of_mem _ hk))⟩
  ·obtain⟨x,p,e1,r5⟩:=r
   exact⟨x,p,e1,BacksR.keep hl r5 hv⟩
theorem zAw:∀{vs:List V} {ms:List Md} {s:St} {h:Hs} {fp:Nat->List Nat} {xs:List Value} {r:List V×St×List (Nat×Ob)},Sim w0 fa sh u h fp s tm w->ValsR h sh u w vs xs->jW ms vs s=some r ->
  ∃h' fp' f,Freed w0 fa sh u h fp s sh h' fp' r.2.1 tm w f (fun _=>True)/\LentR h' sh u w ms r.1 xs f/\BacksR u h' r.1 xs r.2.2/\(∀p∈r.2.2,(∃ob,zO s.obs p.1=some ob)/\zO r.2.1.obs p.1=none)/\(r.2.2.map (·.1)).Nodup
 | [],ms,s,h,fp,xs,r,S,hv,hl=>by
  simp only[jW,Option.some.injEq] at hl;subst hl;simp only[ValsR] at hv;subst hv;exact⟨h,fp,[],Freed.refl S _,⟨rfl,rfl⟩,rfl,(fun p hp=>by cases hp),List.nodup_nil⟩
 | v::q,ms,s,h,fp,xs,r,S,hv,hl=>by
  simp only[ValsR] at hv;obtain⟨x,xq,rfl,rx,hm,hn,hq⟩:=hv;simp only[jW] at hl;cases h1:qU s (ms.headD .snap) v with
  | none=>rw[h1] at hl;cases hl
  | some a =>
   rw[h1] at hl;simp only at hl;cases h2:jW ms.tail q a.2.1 with
   | none=>rw[h2] at hl;cases hl
   | some b =>
    rw[h2] at hl;simp only[Option.some.injEq] at hl;subst hl
    have absent:∀{s1 s2:St} {h1 h2:Hs} {fp1 fp2:Nat->List Nat} {g:List Nat} {o:Nat},Freed w0 fa sh u h1 fp1 s1 sh h2 fp2 s2 tm w g (fun _=>True)->zO s1.obs o=none->zO s2.obs o=none:=by
     intro s1 s2 h1 h2 fp1 fp2 g o F ho;cases hs:zO s2.obs o with
     | none=>rfl
     | some ob=>obtain⟨ob0,h0,_⟩:=F.sub o ob hs;rw[ho] at h0;cases h0
    have present:∀{s1 s2:St} {h1 h2:Hs} {fp1 fp2:Nat->List Nat} {g:List Nat} {o:Nat},Freed w0 fa sh u h1 fp1 s1 sh h2 fp2 s2 tm w g (fun _=>True)->zO s1.obs o=none->zO s2.obs o=none:=absent;cases hm0:ms.headD .snap with
    | snap =>
     rw[hm0] at h1
     have htup:v.isTup=false:=by
      simp only[qU] at h1;split at h1
      ·cases h1
      ·rename_i ht;simpa using ht
     simp only[qU,htup,Bool.false_eq_true,if_false,Option.some.injEq] at h1;subst h1;obtain⟨h',fp',f,F,hL,hB,hg,hnd⟩:=zAw S hq h2;refine⟨h',fp',f,F,?_,?_,hg,hnd⟩
     ·simp only[LentR,hm0]
      exact⟨x,xq,[],f,rfl,rfl,⟨rfl,rx.keep F.goes hm,hm,hn⟩,hL⟩
     ·have hni:(∀sz ys,v≠.iol sz ys)/\∀y,v≠.iop y:=by
       refine⟨fun sz ys e=>?_,fun y e=>?_⟩<;>subst e
       ·simp only[RelS,RelS0,Rel] at rx
       ·simp[V.isTup] at htup
      unfold BacksR;split
      ·exact(hni.1 _ _ (by assumption)).elim
      ·exact(hni.2 _ (by assumption)).elim
      ·exact⟨x,xq,rfl,hB⟩
    | take =>
     rw[hm0] at h1;obtain⟨h3,fp3,f3,F3,hA,hb⟩:=zKr S rx hm hn h1;obtain⟨h',fp',f,F,hL,hB,hg,hnd⟩:=zAw F3.sim (hq.keep F3.goes) h2
     have hnr:(∀sz ys,a.1≠.iol sz ys)/\∀y,a.1≠.iop y:=by
      simp only[qU] at h1;cases hf:v.fz s with
      | none=>rw[hf] at h1;cases h1
      | some k =>
       rw[hf] at h1;simp only at h1;split at h1
       ·rename_i hok
        cases h1;refine⟨fun sz ys e=>?_,fun y e=>?_⟩<;>(simp only at e;rw[e] at hok;simp[V.argOk,V.bare] at hok)
       ·cases h1
     refine⟨h',fp',f3++f,(F3.trans F).mono (fun _ _=>trivial),?_,?_,?_,?_⟩
     ·simp only[LentR,hm0]
      exact⟨x,xq,f3,f,rfl,rfl,hA.keep (Goes.none (fun b hb=>⟨F.shs b hb,rfl⟩)) (fun _ _=>rfl),hL⟩
     ·rw[hb,List.nil_append]
      unfold BacksR;split
      ·exact(hnr.1 _ _ (by assumption)).elim
      ·exact(hnr.2 _ (by assumption)).elim
      ·exact⟨x,xq,rfl,hB⟩
     ·rw[hb,List.nil_append]
      intro p hp;obtain⟨⟨ob1,g1⟩,g2⟩:=hg p hp;obtain⟨ob0,g0,_⟩:=F3.sub _ _ g1;exact⟨⟨ob0,g0⟩,g2⟩
     ·rw[hb,List.nil_append];exact hnd
    | io =>
     rw[hm0] at h1;obtain⟨h3,fp3,f3,o,ob,F3,hA,hb,hB0,ho,hno,hk⟩:=zSp S rx h1;obtain⟨h',fp',f,F,hL,hB,hg,hnd⟩:=zAw F3.sim (hq.keep F3.goes) h2;have hB1:BackR u h' o ob x:=hB0.keep F.le (F.vrn o hno);refine⟨h',fp',f3++f,(F3.trans F).mono (fun _ _=>trivial),?_,?_,?_,?_⟩
     ·simp only[LentR,hm0]
      exact⟨x,xq,f3,f,rfl,rfl,hA.keep (Goes.none (fun b hb=>⟨F.shs b hb,rfl⟩)) (fun _ _=>rfl),hL⟩
     ·rw[hb]
      rcases hk with⟨hbx,e⟩|⟨hbx,y,e⟩
      ·show BacksR u h' (a.1::b.1) _ _
       rw[e];exact⟨x,xq,(o,ob),b.2.2,rfl,rfl,hB1,hbx,rfl,rfl,hB⟩
      ·show BacksR u h' (a.1::b.1) _ _
       rw[e];exact⟨x,xq,(o,ob),b.2.2,rfl,rfl,hB1,hbx,hB⟩
     ·rw[hb]
      intro p hp;rcases List.mem_cons.1 hp with rfl|hp
      ·exact⟨⟨ob,ho⟩,present F hno⟩
      ·obtain⟨⟨ob1,g1⟩,g2⟩:=hg p hp
       obtain⟨ob0,g0,_⟩:=F3.sub _ _ g1;exact⟨⟨ob0,g0⟩,g2⟩
     ·rw[hb]
      simp only[List.cons_append,List.nil_append,List.map_cons,List.nodup_cons];refine⟨fun hmem=>?_,hnd⟩;obtain⟨p,hp,e⟩:=List.mem_map.1 hmem;obtain⟨⟨ob1,g1⟩,_⟩:=hg p hp;rw[e,hno] at g1;cases g1
end
section
variable {u : Nat->Prop} {h : Hs} {sh : Nat->Prop} {w w0 : World} {fa : List Nat} {fp : Nat->List Nat} {s : St} {tm : Array Value}
theorem ArgR.wide {sh':Nat->Prop} (hs:∀b,sh b->sh' b) {v:V} {x:Value} {f:List Nat} (r:ArgR h sh w v x f):ArgR h sh' w v x f :=
 r.keep (Goes.none (fun b hb=>⟨hs b hb,rfl⟩)) (fun _ _=>rfl)
def V.calm:V->Bool
 | .lst own _ _=>!own
 | .iol _ _=>false
 | .iop _=>false
 | _=>true
theorem zV7 {v v':V} (hv:v.snap s=some v'):v'.calm=true:=by
 cases v<;>simp only[V.snap,Option.some.injEq,reduceCtorEq] at hv
 case agg xs=>cases hx:V.snapL s xs with
  | none=>rw[hx] at hv;cases hv
  | some q=>rw[hx] at hv;simp only[zJ,Option.some.injEq] at hv;subst hv;rfl
 case ref o lo n=>cases hx:zMm s.obs o lo n with
  | none=>rw[hx] at hv;cases hv
  | some q=>rw[hx] at hv;simp only[zJ,Option.some.injEq] at hv;subst hv;rfl
 case plc o i fs ver n=>cases hx:s.at o i fs ver n with
  | none=>rw[hx] at hv;cases hv
  | some q=>rw[hx] at hv;simp only[zJ,Option.some.injEq] at hv;subst hv;rfl
 all_goals (subst hv;rfl)
theorem zRh {v v':V} (hv:v.snapA s=some v'):v'.calm=true:=by
 unfold V.snapA at hv;split at hv
 ·rename_i f cs
  cases hx:V.snapPL s cs with
  | none=>rw[hx] at hv;cases hv
  | some q=>rw[hx] at hv;simp only[zJ,Option.some.injEq] at hv;subst hv;rfl
 ·unfold V.snapP at hv
  split at hv
  ·split at hv
   ·cases hv
   ·split at hv
    ·cases hv
    ·rename_i y _
     split at hv
     ·cases hx:y.snap s with
      | none=>rw[hx] at hv;cases hv
      | some q=>rw[hx] at hv;simp only[zJ,Option.some.injEq] at hv;subst hv;rfl
     ·cases hv
  ·exact zV7 hv
theorem zZ4 {sh':Nat->Prop} {v:V} {x:Value} (hc:v.calm=true) (hr:RelS h sh' w v x) (hm:v.mention=[]) (hu:v≠.und) (ht:v.isTup=false):ArgR h sh' w v x []:=by
 unfold ArgR;split
 ·simp[V.calm] at hc
 ·simp[V.calm] at hc
 ·simp[V.calm] at hc
 ·exact⟨rfl,hm,hu,ht,hr⟩
theorem zC5 (S:Sim w0 fa sh u h fp s tm w):∀{vs:List V} {ms:List Md} {xs:List Value} {f:List Nat} {asv:List V} {bs:List (Nat×Ob)},LentR h sh u w ms vs xs f->BacksR u h vs xs bs->jI s ms vs=some asv ->
  ArgsR h (zHu sh s fp) w asv xs f/\BacksR u h asv xs bs
 | [],ms,xs,f,asv,bs,r,rb,hs=>by
  simp only[jI,Option.some.injEq] at hs;subst hs;exact⟨r,rb⟩
 | v::q,ms,xs,f,asv,bs,r,rb,hs=>by
  simp only[LentR] at r;obtain⟨x,xq,f1,f2,rfl,rfl,r1,r2⟩:=r;simp only[jI] at hs;cases hm0:ms.headD .snap with
  | snap =>
   rw[hm0] at hs r1;simp only at hs r1;obtain⟨rfl,rx,hm,hn⟩:=r1;cases hv:v.snapA s with
   | none=>rw[hv] at hs;cases hs
   | some a =>
    rw[hv] at hs;simp only at hs;cases hq:jI s ms.tail q with
    | none=>rw[hq] at hs;cases hs
    | some b =>
     rw[hq] at hs;simp only[zJ,Option.some.injEq] at hs;subst hs;obtain⟨k1,k2,k3,k4⟩:=zO0 S rx hn hv;have hc:=zRh hv
     have hB:BacksR u h q xq bs:=by
      unfold BacksR at rb;split at rb
      ·exact absurd rx (by simp[RelS,RelS0,Rel])
      ·simp[V.snapA,V.snapP,V.snap] at hv
      ·obtain⟨_,_,e,rb⟩:=rb
       cases e;exact rb
     obtain⟨i1,i2⟩:=zC5 S r2 hB hq;refine⟨⟨x,xq,[],f2,rfl,rfl,zZ4 hc k1 k2 k3 k4,i1⟩,?_⟩;unfold BacksR;split
     ·simp[V.calm] at hc
     ·simp[V.calm] at hc
     ·exact⟨x,xq,rfl,i2⟩
  | take =>
   rw[hm0] at hs r1;simp only at hs r1;cases hq:jI s ms.tail q with
   | none=>rw[hq] at hs;cases hs
   | some b =>
    rw[hq] at hs;simp only[zJ,Option.some.injEq] at hs;subst hs;exact args_keep S r2 rb hq r1
  | io =>
   rw[hm0] at hs r1;simp only at hs r1;cases hq:jI s ms.tail q with
   | none=>rw[hq] at hs;cases hs
   | some b =>
    rw[hq] at hs;simp only[zJ,Option.some.injEq] at hs;subst hs;exact args_keep S r2 rb hq r1
where
 args_keep (S:Sim w0 fa sh u h fp s tm w) {v:V} {q:List V} {ms:List Md} {x:Value} {xq:List Value} {f1 f2:List Nat} {b:List V} {bs:List (Nat×Ob)} (r2:LentR h sh u w ms.tail q xq f2) (rb:BacksR u h (v::q) (x::xq) bs) (hq:jI s ms.tail q=some b) (r1:ArgR h sh w v x f1) :
  ArgsR h (zHu sh s fp) w (v::b) (x::xq) (f1++f2)/\BacksR u h (v::b) (x::xq) bs:=by
  have key:∀{bs},BacksR u h q xq bs->ArgsR h (zHu sh s fp) w b xq f2/\BacksR u h b xq bs:=fun hB=>zC5 S r2 hB hq
  unfold BacksR at rb ⊢;split at rb
  ·obtain⟨_,_,p,t,e,rfl,h1,h2,h3,h4,h5⟩:=rb
   cases e;obtain⟨i1,i2⟩:=key h5;exact⟨⟨x,xq,f1,f2,rfl,rfl,r1.wide (fun _ h=>.inl h),i1⟩,x,xq,p,t,rfl,rfl,h1,h2,h3,h4,i2⟩
  ·obtain⟨_,_,p,t,e,rfl,h1,h2,h5⟩:=rb
   cases e;obtain⟨i1,i2⟩:=key h5;exact⟨⟨x,xq,f1,f2,rfl,rfl,r1.wide (fun _ h=>.inl h),i1⟩,x,xq,p,t,rfl,rfl,h1,h2,i2⟩
  ·obtain⟨_,_,e,h5⟩:=rb
   cases e;obtain⟨i1,i2⟩:=key h5;exact⟨⟨x,xq,f1,f2,rfl,rfl,r1.wide (fun _ h=>.inl h),i1⟩,x,xq,rfl,i2⟩
end
end Go.Proofs.YtbcgenkegnmkhaaGreat.Ev
namespace Go.Proofs.YtbcgenkegnmkhaaGreat.Ev
open Go
set_option linter.unusedSectionVars false
set_option linter.unusedSimpArgs false
section
variable {u : Nat->Prop} {h : Hs} {sh : Nat->Prop} {w w0 : World} {fa : List Nat} {fp : Nat->List Nat} {s : St} {tm : Array Value}
theorem Sim.backOb (S:Sim w0 fa sh u h fp s tm w) {o:Nat} {ob':Ob} (hno:zO s.obs o=none) (huo:u o) (hv:ob'.ver=h.vr o+1) {b off c:Nat} (hd:h.hd o=some (b,off,c,ob'.sz))
  (hlen:ob'.xs.length<=c) (hrow:Row w b (off+c * ob'.sz)) {ds:List Value} {fps:List Nat} (hX:RelX h sh w ob'.sz ob'.xs ds fps) (hat:At w b off ds) (hmen:∀x∈ob'.xs,x.mention=[])
  (hofs:∀i x fs y,ob'.xs[i]? = some x->kS x fs=some y->h.ofs o i fs=i * ob'.sz+zB1 x fs) (hone:ob'.bx=true->c=1) (hl:Loose w0 fa sh s.obs fp w (b::fps)) :
  ∃h' fp',Sim w0 fa sh u h' fp' { s with obs:=xC s.obs o ob' } tm w/\h.Le u h'/\(∀q,q≠o->fp' q=fp q/\h'.vr q=h.vr q)/\fp' o=b::fps:=by
 have hmu:∀q∈V.mentionL ob'.xs,u q:=zAs fun x hx q hq=>by rw[hmen x hx] at hq;cases hq
 let H:Hs:={ h with
         vr:=fun q=>if q=o then ob'.ver else h.vr q
         pa:=fun q i fs v=>if q=o/\v=ob'.ver then qHe (w.cell? ⟨b,off+h.ofs o i fs,none⟩) else h.pa q i fs v
         pc:=fun q i fs v=>if q=o/\v=ob'.ver then qHr (w.cell? ⟨b,off+h.ofs o i fs,none⟩) else h.pc q i fs v }
 have hle:h.Le u H:=by
  refine⟨fun q hq=>rfl,fun q hq=>rfl,fun q hq=>?_,fun q hq i fs v hv'=>?_,fun q hq i fs v hv'=>?_⟩
  ·by_cases e:q=o
   ·subst e;simp only[H,if_true];omega
   ·simp[H,e]
  ·by_cases e:q=o
   ·subst e
    simp only[H];rw[if_neg (by omega)]
   ·simp[H,e]
  ·by_cases e:q=o
   ·subst e
    simp only[H];rw[if_neg (by omega)]
   ·simp[H,e]
 have hX':RelX H sh w ob'.sz ob'.xs ds fps:=RelX.keep ⟨hle,fun b' hb'=>⟨hb',rfl⟩⟩ hX hmu (fun _ _=>rfl);refine⟨H,fun q=>if q=o then b::fps else fp q,?_,hle,fun q hq=>⟨if_neg hq,by simp[H,hq]⟩,if_pos rfl⟩
 have hob:∀q ob1,zO (xC s.obs o ob') q=some ob1->(q=o/\ob1=ob')\/(q≠o/\zO s.obs q=some ob1):=by
  intro q ob1 hq
  by_cases e:q=o
  ·subst e
   simp only[qG,Option.some.injEq] at hq;exact .inl ⟨rfl,hq.symm⟩
  ·simp only[zT e] at hq
   exact .inr ⟨e,hq⟩
 refine S.step (u':=u) (h':=H) (fun o ho=>ho) hle rfl (Grew.refl _) (fun _ _ _=>rfl) (fun b' hb'=>⟨hb',rfl⟩) ?_ ?_ ?_
 ·intro b' hb'
  refine⟨(S.shr b' hb').1,fun q ob1 hq=>?_⟩;rcases hob q ob1 hq with⟨rfl,rfl⟩|⟨hne,hq⟩
  ·simp only[if_true]
   exact fun e=>(hl.ok b' e).2.2.1 hb'
  ·rw[if_neg hne]
   exact(S.shr b' hb').2 q ob1 hq
 ·intro q ob1 hq
  rcases hob q ob1 hq with⟨rfl,rfl⟩|⟨hne,hq⟩
  ·refine .inr ⟨huo,?_,?_,?_⟩
   ·refine⟨by simp[H],fun x hx=>⟨fun _=>hmen x hx,by rw[hmen x hx];intro k hk;cases hk⟩,?_,fun i x fs y hx hg=>hofs i x fs y hx hg,?_,fun hb _ b1 off1 c1 z1 hd1=>?_⟩
    ·simp only[H,hd]
     exact⟨trivial,hlen,hrow,ds,fps,by simp,hat,hX'⟩
    ·intro b1 off1 c1 z1 hd1 i fs sz xs hg
     have hd2:h.hd q=some (b1,off1,c1,z1):=hd1;rw[hd] at hd2;simp only[Option.some.injEq,Prod.mk.injEq] at hd2;obtain⟨rfl,rfl,rfl,rfl⟩:=hd2;unfold Ob.get at hg;cases hx:ob1.xs[i]? with
     | none=>rw[hx] at hg;cases hg
     | some x =>
      rw[hx] at hg;simp only at hg;obtain⟨a,c',hc⟩:=zDh (u:=u) hX' hat hmu hx hg;rw[<-hofs i x fs _ hx hg] at hc;simp only[H,and_self,if_true,hc,qHe,qHr]
    ·have hd2:h.hd q=some (b1,off1,c1,z1):=hd1
     rw[hd] at hd2;simp only[Option.some.injEq,Prod.mk.injEq] at hd2;rw[<-hd2.2.2.1];exact hone hb
   ·simp only[if_true];exact hl.nd
   ·simp only[if_true]
    intro b' hb';exact⟨(hl.ok b' hb').1,(hl.ok b' hb').2.1⟩
  ·exact .inl ⟨hq,if_neg hne,by simp[H,hne],fun _ _=>rfl⟩
 ·intro q q' ob1 ob2 h1 h2 hqq b' hb'
  rcases hob q ob1 h1 with⟨rfl,rfl⟩|⟨n1,g1⟩
  ·rcases hob q' ob2 h2 with⟨rfl,rfl⟩|⟨n2,g2⟩
   ·exact absurd rfl hqq
   ·simp only[if_true] at hb'
    rw[if_neg n2];exact(hl.ok b' hb').2.2.2 q' ob2 g2
  ·rw[if_neg n1] at hb'
   rcases hob q' ob2 h2 with⟨rfl,rfl⟩|⟨n2,g2⟩
   ·simp only[if_true]
    exact fun e=>(hl.ok b' e).2.2.2 q ob1 g1 hb'
   ·rw[if_neg n2]
    exact S.apart q q' ob1 ob2 g1 g2 hqq b' hb'
theorem Sim.backNil (S:Sim w0 fa sh u h fp s tm w) {o:Nat} {ob':Ob} (hno:zO s.obs o=none) (huo:u o) (hv:ob'.ver=h.vr o+1) (hd:h.hd o=none) (hxs:ob'.xs=[]) (hbx:ob'.bx=false) :
  ∃h' fp',Sim w0 fa sh u h' fp' { s with obs:=xC s.obs o ob' } tm w/\h.Le u h'/\(∀q,q≠o->fp' q=fp q/\h'.vr q=h.vr q)/\fp' o=[]:=by
 let H:Hs:={ h with vr:=fun q=>if q=o then ob'.ver else h.vr q }
 have hle:h.Le u H:=by
  refine⟨fun q hq=>rfl,fun q hq=>rfl,fun q hq=>?_,fun q hq i fs v hv'=>rfl,fun q hq i fs v hv'=>rfl⟩
  by_cases e:q=o
  ·subst e;simp only[H,if_true];omega
  ·simp[H,e]
 refine⟨H,fun q=>if q=o then [] else fp q,?_,hle,fun q hq=>⟨if_neg hq,by simp[H,hq]⟩,if_pos rfl⟩
 have hob:∀q ob1,zO (xC s.obs o ob') q=some ob1->(q=o/\ob1=ob')\/(q≠o/\zO s.obs q=some ob1):=by
  intro q ob1 hq
  by_cases e:q=o
  ·subst e
   simp only[qG,Option.some.injEq] at hq;exact .inl ⟨rfl,hq.symm⟩
  ·simp only[zT e] at hq
   exact .inr ⟨e,hq⟩
 refine S.step (u':=u) (h':=H) (fun o ho=>ho) hle rfl (Grew.refl _) (fun _ _ _=>rfl) (fun b' hb'=>⟨hb',rfl⟩) ?_ ?_ ?_
 ·intro b' hb'
  refine⟨(S.shr b' hb').1,fun q ob1 hq=>?_⟩;rcases hob q ob1 hq with⟨rfl,rfl⟩|⟨hne,hq⟩
  ·simp
  ·rw[if_neg hne]
   exact(S.shr b' hb').2 q ob1 hq
 ·intro q ob1 hq
  rcases hob q ob1 hq with⟨rfl,rfl⟩|⟨hne,hq⟩
  ·refine .inr ⟨huo,?_,by simp,by simp⟩
   refine⟨by simp[H],fun x hx=>(by rw[hxs] at hx;cases hx),?_,fun i x fs y hx=>(by rw[hxs] at hx;simp at hx),fun b1 off1 c1 z1 hd1=>?_,fun hb=>(by rw[hbx] at hb;cases hb)⟩
   ·simp only[H,hd]
    exact⟨hxs,by simp,hbx⟩
   ·have hd2:h.hd q=some (b1,off1,c1,z1):=hd1
    rw[hd] at hd2;cases hd2
  ·exact .inl ⟨hq,if_neg hne,by simp[H,hne],fun _ _=>rfl⟩
 ·intro q q' ob1 ob2 h1 h2 hqq b' hb'
  rcases hob q ob1 h1 with⟨rfl,rfl⟩|⟨n1,g1⟩
  ·simp at hb'
  ·rw[if_neg n1] at hb'
   rcases hob q' ob2 h2 with⟨rfl,rfl⟩|⟨n2,g2⟩
   ·simp
   ·rw[if_neg n2]
    exact S.apart q q' ob1 ob2 g1 g2 hqq b' hb'
theorem Loose.left {obs:List (Nat×Ob)} {f g:List Nat} (l:Loose w0 fa sh obs fp w (f++g)):Loose w0 fa sh obs fp w f:=l.sub (List.sublist_append_left ..)
theorem Loose.right {obs:List (Nat×Ob)} {f g:List Nat} (l:Loose w0 fa sh obs fp w (f++g)):Loose w0 fa sh obs fp w g:=l.sub (List.sublist_append_right ..)
theorem zRf {x:Value} {o:Nat} {ob:Ob} (r:BackR u h o ob x) {ys:List V} (ha:V.alikeL ob.xs ys=true):∀i y fs z,ys[i]? = some y->kS y fs=some z->h.ofs o i fs=i * ob.sz+zB1 y fs:=by
 intro i y fs z hy hz;obtain⟨x0,h1,h2,_⟩:=vU ha hy;obtain⟨y0,h3,h4,_⟩:=zDd h2 hz;rw[r.ofs i x0 fs y0 h1 h3,h4]
theorem zM2 {o:Nat} {ob':Ob} {f g:List Nat} {fp':Nat->List Nat} (hl:Loose w0 fa sh s.obs fp w (f++g)) (hfo:∀q,q≠o->fp' q=fp q) (hfs:fp' o=f):Loose w0 fa sh (xC s.obs o ob') fp' w g:=by
 have hg:=hl.right;refine⟨hg.nd,fun b hb=>⟨(hg.ok b hb).1,(hg.ok b hb).2.1,(hg.ok b hb).2.2.1,fun q ob hq=>?_⟩⟩
 by_cases e:q=o
 ·subst e
  rw[hfs];exact fun h=>(List.nodup_append.1 hl.nd).2.2 b h b hb rfl
 ·rw[zT e] at hq
  rw[hfo q e];exact(hg.ok b hb).2.2.2 q ob hq
theorem zCk {h1:Hs}:∀{args:List V} {xs:List Value} {bs:List (Nat×Ob)} {outs:List V} {fo:List Nat} {s s':St} {h:Hs} {fp:Nat->List Nat},Sim w0 fa sh u h fp s tm w->BacksR u h args xs bs->OutsR h1 sh w args xs outs fo->Loose w0 fa sh s.obs fp w fo ->
  (∀p∈bs,zO s.obs p.1=none)->(bs.map (·.1)).Nodup->vV bs outs s=some s' ->
  ∃h' fp',Sim w0 fa sh u h' fp' s' tm w/\h.Le u h'/\s'.env=s.env/\s'.nxt=s.nxt/\(∀g:List Nat,Loose w0 fa sh s.obs fp w (fo++g)->Loose w0 fa sh s'.obs fp' w g)
 | [],xs,bs,outs,fo,s,s',h,fp,S,hB,hO,hl,hno,hnd,hs=>by
  simp only[BacksR] at hB;subst hB;simp only[vV,Option.some.injEq] at hs;subst hs;simp only[OutsR] at hO;obtain⟨_,rfl⟩:=hO;exact⟨h,fp,S,Hs.Le.refl u h,rfl,rfl,fun g hg=>hg⟩
 | v::q,xs,bs,outs,fo,s,s',h,fp,S,hB,hO,hl,hno,hnd,hs=>by
  unfold BacksR at hB;unfold OutsR at hO
  have next:∀{o:Nat} {ob ob':Ob} {t:List (Nat×Ob)} {xq:List Value} {f1 f2:List Nat} {os:List V} {h':Hs} {fp':Nat->List Nat},bs=(o,ob)::t->fo=f1++f2->Sim w0 fa sh u h' fp' { s with obs:=xC s.obs o ob' } tm w->h.Le u h'->(∀q,q≠o->fp' q=fp q/\h'.vr q=h.vr q)->fp' o=f1 ->
    BacksR u h q xq t->OutsR h1 sh w q xq os f2->vV t os { s with obs:=xC s.obs o ob' } = some s' ->
    ∃h' fp',Sim w0 fa sh u h' fp' s' tm w/\h.Le u h'/\s'.env=s.env/\s'.nxt=s.nxt/\(∀g:List Nat,Loose w0 fa sh s.obs fp w (fo++g)->Loose w0 fa sh s'.obs fp' w g):=by
   intro o ob ob' t xq f1 f2 os h' fp' hbs hfo S' hle hoth hself hB' hO' hs';subst hbs;subst hfo;simp only[List.map_cons,List.nodup_cons] at hnd;have hne:∀p∈t,p.1≠o:=fun p hp e=>hnd.1 (List.mem_map.2 ⟨p,hp,e⟩)
   obtain⟨h2,fp2,S2,hle2,e1,e2,hg⟩:=zCk S' (hB'.keep hle (fun p hp=>(hoth p.1 (hne p hp)).2)) hO' (zM2 hl (fun q hq=>(hoth q hq).1) hself)
    (fun p hp=>by
     show zO (xC s.obs o ob') p.1=none;rw[zT (hne p hp)]
     exact hno p (List.mem_cons_of_mem _ hp)) hnd.2 hs'
   refine⟨h2,fp2,S2,hle.trans hle2 (fun _ h=>h),e1,e2,fun g hg'=>hg g ?_⟩;rw[List.append_assoc] at hg';exact zM2 hg' (fun q hq=>(hoth q hq).1) hself
  split at hB
  ·rename_i sz ys
   obtain⟨x,xq,p,t,rfl,rfl,hR,hbx,hsz,hys,hB⟩:=hB;obtain⟨o,ob⟩:=p;simp only at hO hR hbx hsz hys;obtain⟨x',xq',zs,os,f1,f2,e,rfl,rfl,hmz,hor,hO⟩:=hO;cases e;simp only[vV] at hs;cases hb:xF o ob (.lst true sz zs) s with
   | none=>rw[hb] at hs;cases hs
   | some s1 =>
    rw[hb] at hs;simp only[xF] at hb;rw[if_neg (by rw[hbx];simp)] at hb;split at hb
    ·rename_i hal
     cases hb;have hno0:=hno _ (List.mem_cons_self ..);have hrow:=hR.row hbx;cases hd:h.hd o with
     | none =>
      rw[hd] at hrow;obtain⟨hx0,hxs0⟩:=hrow
      have hz0:zs=[]/\f1=[]:=by
       rcases hor with⟨_,k1,k2⟩|⟨b,off,n,c,ds,fps,e,_⟩
       ·exact⟨k1,k2⟩
       ·rw[hx0] at e;cases e
      obtain⟨rfl,rfl⟩:=hz0;obtain⟨h',fp',S',hle,hoth,hself⟩:=S.backNil (ob':={ ob with xs:=[],ver:=ob.ver+1 }) hno0 hR.use (by rw[hR.ver]) hd rfl hbx;exact next rfl rfl S' hle hoth hself hB hO hs
     | some p =>
      obtain⟨b,off,c,z⟩:=p;rw[hd] at hrow;obtain⟨rfl,hx0⟩:=hrow;rcases hor with⟨k0,_,_⟩|⟨b',off',n',c',ds,fps,e,rfl,hlen,hrw,hat,hX⟩
      ·rw[hx0] at k0;cases k0
      ·rw[hx0] at e
       simp only[Value.slice.injEq,Option.some.injEq,Addr.mk.injEq,and_true] at e;obtain⟨⟨rfl,rfl⟩,_,rfl⟩:=e;subst hsz
       obtain⟨h',fp',S',hle,hoth,hself⟩:=S.backOb (ob':={ ob with xs:=zs,ver:=ob.ver+1 }) hno0 hR.use (by rw[hR.ver]) hd hlen hrw
        (RelX.keep (Goes.none (fun b hb=>⟨hb,rfl⟩)) hX (by rw[hmz];intro q hq;cases hq) (fun _ _=>rfl)) hat (jM hmz) (zRf hR hal) (fun hb=>by rw[hbx] at hb;cases hb) hl.left
       exact next rfl rfl S' hle hoth hself hB hO hs
    ·cases hb
  ·rename_i y0
   obtain⟨x,xq,p,t,rfl,rfl,hR,hbx,hB⟩:=hB;obtain⟨o,ob⟩:=p;simp only at hO hR hbx;obtain⟨x',xq',y,os,f1,f2,e,rfl,rfl,hmy,⟨b',off',ds,fps,hx',rfl,hrw,hat,hry⟩,hO⟩:=hO;cases e;simp only[vV] at hs;cases hb:xF o ob y s with
   | none=>rw[hb] at hs;cases hs
   | some s1 =>
    rw[hb] at hs;simp only[xF] at hb;rw[if_pos hbx] at hb;split at hb
    ·rename_i hal
     cases hb;have hno0:=hno _ (List.mem_cons_self ..);obtain⟨b,off,hd,hx0,y1,hy1,hyc⟩:=hR.box hbx;rw[hx0] at hx';simp only[Value.pointer.injEq,Option.some.injEq,Addr.mk.injEq,and_true] at hx';obtain⟨rfl,rfl⟩:=hx'
     have hyz:y.cells=ob.sz:=by
      rw[hy1] at hal;simp only[V.alikeL,List.isEmpty_nil,Bool.and_true] at hal;rw[<-qK hal,hyc]
     obtain⟨h',fp',S',hle,hoth,hself⟩:=S.backOb (ob':={ ob with xs:=[y],ver:=ob.ver+1 }) hno0 hR.use (by rw[hR.ver]) hd (Nat.le_refl _) (by simp only[Nat.one_mul];rw[<-hyz];exact hrw) (ds:=ds) (fps:=fps)
      (by
       simp only[RelX]
       exact⟨ds,[],fps,[],by simp,by simp,by rw[Rel.len hry,hyz],Rel.keep (u:=fun _=>False) ⟨fun _ h=>h.elim,fun _ h=>h.elim,fun _ h=>h.elim,fun _ h=>h.elim,fun _ h=>h.elim⟩ (fun b hb=>⟨hb,rfl⟩) hry (by rw[hmy];intro q hq;cases hq) (fun _ _=>rfl),rfl,rfl⟩) hat (fun k hk=>by simp only[List.mem_singleton] at hk;subst hk;exact hmy) (zRf hR hal) (fun _=>rfl) hl.left
     exact next rfl rfl S' hle hoth hself hB hO hs
    ·cases hb
  ·rename_i hn1 hn2
   obtain⟨x,xq,rfl,hB⟩:=hB
   have hO':∃x' q',x::xq=x'::q'/\OutsR h1 sh w q q' outs fo:=by
    split at hO
    ·exact absurd rfl (hn1 _ _)
    ·exact absurd rfl (hn2 _)
    ·exact hO
   obtain⟨x',xq',e,hO⟩:=hO';cases e;exact zCk S hB hO hl hno hnd hs
end
theorem Sim.same {u:Nat->Prop} {h:Hs} {sh:Nat->Prop} {w w0:World} {fa:List Nat} {fp:Nat->List Nat} {s s':St} {tm:Array Value} (S:Sim w0 fa sh u h fp s tm w)
  (he:∀t,zO s'.env t=zO s.env t) (ho:∀o,zO s'.obs o=zO s.obs o):Sim w0 fa sh u h fp s' tm w:=by
 refine⟨S.size,S.old,fun o ob h1=>S.obs o ob (by rw[<-ho o];exact h1),fun o ob h1=>S.own o ob (by rw[<-ho o];exact h1),fun o o' ob ob' h1 h2=>S.apart o o' ob ob' (by rw[<-ho o];exact h1) (by rw[<-ho o'];exact h2),fun b hb=>⟨(S.shr b hb).1,fun o ob h1=>(S.shr b hb).2 o ob (by rw[<-ho o];exact h1)⟩,fun t v h1=>S.env t v (by rw[<-he t];exact h1)⟩
theorem kV {α:Type} {l r:List (Nat×α)} {t:Nat}:zO (l++r) t=(zO l t).or (zO r t):=by
 induction l with
 | nil=>rfl
 | cons e l ih =>
  obtain⟨k,v⟩:=e;simp only[List.cons_append,zO];split
  ·rfl
  ·exact ih
theorem Loose.same {w w0:World} {fa:List Nat} {sh:Nat->Prop} {obs obs':List (Nat×Ob)} {fp:Nat->List Nat} {f:List Nat} (l:Loose w0 fa sh obs fp w f) (ho:∀o,zO obs' o=zO obs o):Loose w0 fa sh obs' fp w f :=
 ⟨l.nd,fun b hb=>⟨(l.ok b hb).1,(l.ok b hb).2.1,(l.ok b hb).2.2.1,fun o ob h=>(l.ok b hb).2.2.2 o ob (by rw[<-ho o];exact h)⟩⟩
section
variable {u : Nat->Prop} {h h0 : Hs} {sh : Nat->Prop} {w w0 : World} {fa : List Nat} {fp : Nat->List Nat} {s : St} {tm : Array Value}
structure Thawed (w0:World) (fa:List Nat) (sh u:Nat->Prop) (h:Hs) (s:St) (tm:Array Value) (w:World) (id id':Nat) (os:List (Nat×Ob)) (g:List Nat) (u':Nat->Prop) (h':Hs) (fp':Nat->List Nat):Prop where
 sim:Sim w0 fa sh u' h' fp' { s with obs:=os++s.obs } tm w
 le:h.Le u h'
 uu:∀o,u o->u' o
 un:∀o,u' o->u o\/id<=o/\o<id'
 loose:Loose w0 fa sh (os++s.obs) fp' w g
 up:id<=id'
 ids:∀o,(zO os o).isSome=true->id<=o/\o<id'
theorem Thawed.nil (S:Sim w0 fa sh u h fp s tm w) {g:List Nat} (l:Loose w0 fa sh s.obs fp w g) (id:Nat):Thawed w0 fa sh u h s tm w id id [] g u h fp :=
 ⟨S.same (fun _=>rfl) (fun _=>rfl),Hs.Le.refl u h,fun _ h=>h,fun _ h=>.inl h,l,Nat.le_refl _,fun o h=>by simp[zO] at h⟩
theorem Thawed.trans {u1 u2:Nat->Prop} {h1 h2:Hs} {fp1 fp2:Nat->List Nat} {id id1 id2:Nat} {os ps:List (Nat×Ob)} {g1 g2:List Nat} (A:Thawed w0 fa sh u h s tm w id id1 os g1 u1 h1 fp1)
  (B:Thawed w0 fa sh u1 h1 { s with obs:=os++s.obs } tm w id1 id2 ps g2 u2 h2 fp2):Thawed w0 fa sh u h s tm w id id2 (os++ps) g2 u2 h2 fp2:=by
 have hg:∀o,zO ((os++ps)++s.obs) o=zO (ps++(os++s.obs)) o:=by
  intro o;simp only[kV];cases ha:zO os o with
  | none=>simp
  | some x =>
   cases hb:zO ps o with
   | none=>simp
   | some y =>
    have h1:=A.ids o (by rw[ha];rfl);have h2:=B.ids o (by rw[hb];rfl);omega
 refine⟨B.sim.same (fun _=>rfl) hg,A.le.trans B.le A.uu,fun o ho=>B.uu o (A.uu o ho),fun o ho=>?_,B.loose.same hg,Nat.le_trans A.up B.up,fun o ho=>?_⟩
 ·rcases B.un o ho with ho|ho
  ·rcases A.un o ho with ho|ho
   ·exact .inl ho
   ·have:=B.up;exact .inr (by omega)
  ·have:=A.up;exact .inr (by omega)
 ·rw[kV] at ho
  have ha:=A.up;have hb:=B.up;cases hx:zO os o with
  | some x=>have:=A.ids o (by rw[hx];rfl);omega
  | none =>
   rw[hx] at ho
   have:=B.ids o ho
   omega
theorem vO {a b:List Nat} (h:a++b=[]):a=[]/\b=[]:=List.append_eq_nil_iff.1 h
theorem zBr {h h':Hs}:Goes (fun _=>False) h sh w h' sh w:=Goes.none (fun _ hb=>⟨hb,rfl⟩)
theorem Rel.any {h h':Hs} {v:V} {cs:List Value} {f:List Nat} (r:Rel h sh w v cs f) (hm:v.mention=[]):Rel h' sh w v cs f :=
 Rel.keep (zBr (w:=w) (sh:=sh) (h:=h) (h':=h')).le (zBr (w:=w) (sh:=sh) (h:=h) (h':=h')).sh r (by rw[hm];intro o ho;cases ho) (fun _ _=>rfl)
theorem zDt {id:Nat} {ob:Ob} (o:Nat):zO ([(id,ob)]++s.obs) o=zO (s.new id ob).obs o:=by
 by_cases e:o=id
 ·subst e;simp[St.new,qG,zO]
 ·simp only[St.new,zT e,List.cons_append,List.nil_append,zO]
  rw[if_neg (Ne.symm e)]
theorem zFj {fx:Bool} (S:Sim w0 fa sh u h fp s tm w) {sz:Nat} {xs:List V} {cs:List Value} {f g:List Nat} {id:Nat} (r:Rel h0 sh w (.lst true sz xs) cs f) (hl:Loose w0 fa sh s.obs fp w (f++g)) (hid:¬u id) :
  ∃u' h' fp',Thawed w0 fa sh u h s tm w id (id+1) [(id,⟨false,fx,sz,xs,0⟩)] g u' h' fp'/\Rel h' sh w (.ref id 0 xs.length) cs []/\u' id:=by
 simp only[Rel,if_true] at r
 have ids:∀{ob:Ob} o,(zO [(id,ob)] o).isSome=true->id<=o/\o<id+1:=by
  intro ob o ho;simp only[zO] at ho;split at ho
  ·omega
  ·cases ho
 have lo:∀{ob:Ob} {fp':Nat->List Nat} {k:List Nat},(∀q,q≠id->fp' q=fp q)->fp' id=k->Loose w0 fa sh s.obs fp w (k++g)->Loose w0 fa sh ([(id,ob)]++s.obs) fp' w g:=by
  intro ob fp' k h1 h2 hl;refine⟨hl.right.nd,fun b hb=>⟨(hl.right.ok b hb).1,(hl.right.ok b hb).2.1,(hl.right.ok b hb).2.2.1,fun o ob' ho=>?_⟩⟩;rw[zDt] at ho
  by_cases e:o=id
  ·subst e
   rw[h2];exact fun hk=>(List.nodup_append.1 hl.nd).2.2 b hk b hb rfl
  ·simp only[St.new,zT e] at ho
   rw[h1 o e];exact(hl.right.ok b hb).2.2.2 o ob' ho
 rcases r with⟨rfl,rfl,rfl⟩|⟨b,off,c,ds,fps,rfl,rfl,hc,hrow,hat,hr⟩
 ·obtain⟨h',fp',S',hle,hhd,h1,h2⟩:=S.newNil (sz:=sz) (fx:=fx) hid
  refine⟨_,h',fp',⟨S'.same (fun _=>rfl) zDt,hle,fun o ho=>.inl ho,fun o ho=>ho.imp_right (fun e=>by omega),lo h1 h2 hl,by omega,ids⟩,?_,.inr rfl⟩;simp[Rel,hhd]
 ·have hlb:=hl.left
  have hb0:=hlb.ok b (List.mem_cons_self ..);have hfl:Loose w0 fa sh s.obs fp w fps:=hlb.sub (List.sublist_cons_self ..);have hbn:b ∉ fps:=(List.nodup_cons.1 hlb.nd).1;obtain⟨hX,hmm⟩:=RelL.iff.1 hr
  have hX':RelX h sh w sz xs ds fps:=RelX.keep (zBr (h:=h0) (h':=h)) hX (by
   intro o ho;obtain⟨x,hx,ho⟩:=mem_mentionL.1 ho
   rw[hmm x hx] at ho;cases ho) (fun _ _=>rfl)
  obtain⟨h',fp',S',hle,hhd,hofs,h1,h2⟩:=S.newObF (w':=w) (ob:=⟨false,fx,sz,xs,0⟩) hid (Grew.refl _) (fun _ _ _=>rfl) hb0 hrow hc hX' hat
   (fun x hx=>⟨fun _=>hmm x hx,by rw[hmm x hx];intro q hq;cases hq⟩) hbn hfl (by simp)
  refine⟨_,h',fp',⟨S'.same (fun _=>rfl) zDt,hle,fun o ho=>.inl ho,fun o ho=>ho.imp_right (fun e=>by omega),lo h1 h2 hl,by omega,ids⟩,?_,.inr rfl⟩;simp only[Rel,hhd];exact⟨trivial,by omega,by simp⟩
mutual
theorem zOf:∀(v:V) (id:Nat),id<=(v.thaw id).2.2
 | .lst own sz xs,id=>by cases own<;>simp[V.thaw]
 | .agg xs,id=>by simp only[V.thaw];exact zDy xs id
 | .tup xs,id=>by simp only[V.thaw];exact zDy xs id
 | .int ..,id=>Nat.le_refl _
 | .bool _,id=>Nat.le_refl _
 | .str _,id=>Nat.le_refl _
 | .emp _,id=>Nat.le_refl _
 | .ref ..,id=>Nat.le_refl _
 | .plc ..,id=>Nat.le_refl _
 | .ptr ..,id=>Nat.le_refl _
 | .vptr _,id=>Nat.le_refl _
 | .clo ..,id=>Nat.le_refl _
 | .und,id=>Nat.le_refl _
 | .iol ..,id=>Nat.le_refl _
 | .iop _,id=>Nat.le_refl _
theorem zDy:∀(xs:List V) (id:Nat),id<=(V.thawL id xs).2.2
 | [],id=>Nat.le_refl _
 | x::r,id=>by simp only[V.thawL];exact Nat.le_trans (zOf x id) (zDy r _)
end
theorem xS {v:V} {cs:List Value} {f g:List Nat} {id:Nat} (ht:v.thaw id=(v,[],id)) (hf:f=[]) (S:Sim w0 fa sh u h fp s tm w) (r:Rel h0 sh w v cs f) (hm:v.mention=[]) (hl:Loose w0 fa sh s.obs fp w (f++g)) :
  ∃u' h' fp',Thawed w0 fa sh u h s tm w id (v.thaw id).2.2 (v.thaw id).2.1 g u' h' fp'/\Rel h' sh w (v.thaw id).1 cs []/\(∀o∈(v.thaw id).1.mention,u' o):=by
 subst hf;rw[ht];exact⟨u,h,fp,Thawed.nil S hl id,r.any hm,by simp only[hm];intro o ho;cases ho⟩
mutual
theorem zI1:∀{v:V} {u:Nat->Prop} {h:Hs} {fp:Nat->List Nat} {s:St} {cs:List Value} {f g:List Nat} {id:Nat},Sim w0 fa sh u h fp s tm w->Rel h0 sh w v cs f->v.mention=[]->Loose w0 fa sh s.obs fp w (f++g)->(∀o,id<=o->o<(v.thaw id).2.2->¬u o) ->
  ∃u' h' fp',Thawed w0 fa sh u h s tm w id (v.thaw id).2.2 (v.thaw id).2.1 g u' h' fp'/\Rel h' sh w (v.thaw id).1 cs []/\(∀o∈(v.thaw id).1.mention,u' o)
 | .lst own sz xs,u,h,fp,s,cs,f,g,id,S,r,hm,hl,hu=>by
  cases own
  ·exact xS rfl (by simp only[Rel,Bool.false_eq_true,if_false] at r;exact r.1) S r hm hl
  ·simp only[V.thaw] at hu ⊢
   obtain⟨u',h',fp',T,r',hi⟩:=zFj S r hl (hu id (Nat.le_refl _) (by omega));exact⟨u',h',fp',T,r',fun o ho=>by simp only[V.mention,List.mem_singleton] at ho;subst ho;exact hi⟩
 | .agg xs,u,h,fp,s,cs,f,g,id,S,r,hm,hl,hu=>by
  simp only[V.thaw,Rel,V.mention] at hu r hm ⊢;exact zCr S r hm hl hu
 | .int ..,u,h,fp,s,cs,f,g,id,S,r,hm,hl,hu=>xS rfl (by simp only[Rel] at r;exact r.2) S r hm hl
 | .bool _,u,h,fp,s,cs,f,g,id,S,r,hm,hl,hu=>xS rfl (by simp only[Rel] at r;exact r.2) S r hm hl
 | .str _,u,h,fp,s,cs,f,g,id,S,r,hm,hl,hu=>xS rfl (by simp only[Rel] at r;exact r.2) S r hm hl
 | .emp _,u,h,fp,s,cs,f,g,id,S,r,hm,hl,hu=>xS rfl (by simp only[Rel] at r;exact r.1) S r hm hl
 | .vptr _,u,h,fp,s,cs,f,g,id,S,r,hm,hl,hu=>xS rfl (by simp only[Rel] at r;exact r.1) S r hm hl
 | .clo ..,u,h,fp,s,cs,f,g,id,S,r,hm,hl,hu=>xS rfl (by simp only[Rel] at r;exact r.1) S r hm hl
 | .und,u,h,fp,s,cs,f,g,id,S,r,hm,hl,hu=>xS rfl (by simp only[Rel] at r;exact r.1) S r hm hl
 | .ref ..,u,h,fp,s,cs,f,g,id,S,r,hm,hl,hu=>by simp[V.mention] at hm
 | .plc ..,u,h,fp,s,cs,f,g,id,S,r,hm,hl,hu=>by simp[V.mention] at hm
 | .ptr ..,u,h,fp,s,cs,f,g,id,S,r,hm,hl,hu=>by simp[V.mention] at hm
 | .tup _,u,h,fp,s,cs,f,g,id,S,r,hm,hl,hu=>by simp only[Rel] at r
 | .iol ..,u,h,fp,s,cs,f,g,id,S,r,hm,hl,hu=>by simp only[Rel] at r
 | .iop _,u,h,fp,s,cs,f,g,id,S,r,hm,hl,hu=>by simp only[Rel] at r
theorem zCr:∀{xs:List V} {u:Nat->Prop} {h:Hs} {fp:Nat->List Nat} {s:St} {cs:List Value} {f g:List Nat} {id:Nat},Sim w0 fa sh u h fp s tm w->RelA h0 sh w xs cs f->V.mentionL xs=[]->Loose w0 fa sh s.obs fp w (f++g)->(∀o,id<=o->o<(V.thawL id xs).2.2->¬u o) ->
  ∃u' h' fp',Thawed w0 fa sh u h s tm w id (V.thawL id xs).2.2 (V.thawL id xs).2.1 g u' h' fp'/\RelA h' sh w (V.thawL id xs).1 cs []/\(∀o∈V.mentionL (V.thawL id xs).1,u' o)
 | [],u,h,fp,s,cs,f,g,id,S,r,hm,hl,hu=>by
  simp only[RelA] at r;obtain⟨rfl,rfl⟩:=r;exact⟨u,h,fp,Thawed.nil S hl id,⟨rfl,rfl⟩,fun o ho=>by cases ho⟩
 | x::q,u,h,fp,s,cs,f,g,id,S,r,hm,hl,hu=>by
  simp only[RelA] at r;obtain⟨c1,c2,f1,f2,rfl,rfl,r1,r2⟩:=r;obtain⟨m1,m2⟩:=vO (show x.mention++V.mentionL q=[] from hm);simp only[V.thawL] at hu ⊢;have k1:=zOf x id;have k2:=zDy q (x.thaw id).2.2;obtain⟨u1,h1,fp1,T1,q1,n1⟩:=zI1 S r1 m1 (by rw[<-List.append_assoc];exact hl) (fun o h1 h2=>hu o h1 (by omega))
  obtain⟨u2,h2,fp2,T2,q2,n2⟩:=zCr (id:=(x.thaw id).2.2) T1.sim r2 m2 T1.loose (fun o h1 h2 ho=>by
   rcases T1.un o ho with ho|ho
   ·exact hu o (by omega) (by omega) ho
   ·omega)
  refine⟨u2,h2,fp2,T1.trans T2,?_,?_⟩
  ·simp only[RelA]
   exact⟨c1,c2,[],[],rfl,rfl,Rel.keep T2.le (fun b hb=>⟨hb,rfl⟩) q1 n1 (fun _ hb=>by cases hb),q2⟩
  ·intro o ho
   simp only[V.mentionL,List.mem_append] at ho;rcases ho with ho|ho
   ·exact T2.uu o (n1 o ho)
   ·exact n2 o ho
end
theorem zHj {v:V} {x:Value} {f g:List Nat} {id:Nat} (S:Sim w0 fa sh u h fp s tm w) (r:zT8 h0 sh w v x f) (hl:Loose w0 fa sh s.obs fp w (f++g)) (hu:∀o,id<=o->o<(v.thaw id).2.2->¬u o) :
  ∃u' h' fp',Thawed w0 fa sh u h s tm w id (v.thaw id).2.2 (v.thaw id).2.1 g u' h' fp'/\RelS0 h' sh w (v.thaw id).1 x/\(∀o∈(v.thaw id).1.mention,u' o):=by
 obtain⟨hm,r⟩:=r
 by_cases hv:∃xs,v = .agg xs
 ·obtain⟨xs,rfl⟩:=hv
  obtain⟨cs,rfl,r⟩:=r;simp only[V.thaw,V.mention] at hu hm ⊢;obtain⟨u',h',fp',T,q,n⟩:=zCr S r hm hl hu;exact⟨u',h',fp',T,⟨cs,rfl,q⟩,n⟩
 ·have r':Rel h0 sh w v [x] f:=by
   split at r
   ·exact absurd ⟨_,rfl⟩ hv
   ·exact r
  obtain⟨u',h',fp',T,q,n⟩:=zI1 S r' hm hl hu;refine⟨u',h',fp',T,?_,n⟩
  have ha:∀xs,(v.thaw id).1≠.agg xs:=by
   intro xs e;cases v with
   | lst own sz xs=>cases own<;>simp[V.thaw] at e
   | agg xs=>exact hv ⟨xs,rfl⟩
   | tup xs=>simp[V.thaw] at e
   | _=>simp[V.thaw] at e
  unfold RelS0;split
  ·trivial
  ·rename_i e;exact absurd e (ha _)
  ·exact q
theorem zGm:∀{xs:List V} {u:Nat->Prop} {h:Hs} {fp:Nat->List Nat} {s:St} {cs:List Value} {f g:List Nat} {id:Nat},Sim w0 fa sh u h fp s tm w->zIx h0 sh w xs cs f->Loose w0 fa sh s.obs fp w (f++g)->(∀o,id<=o->o<(V.thawL id xs).2.2->¬u o) ->
  ∃u' h' fp',Thawed w0 fa sh u h s tm w id (V.thawL id xs).2.2 (V.thawL id xs).2.1 g u' h' fp'/\RelSL h' sh w (V.thawL id xs).1 cs/\(∀o∈V.mentionL (V.thawL id xs).1,u' o)
 | [],u,h,fp,s,cs,f,g,id,S,r,hl,hu=>by
  simp only[zIx] at r;obtain⟨rfl,rfl⟩:=r;exact⟨u,h,fp,Thawed.nil S hl id,rfl,fun o ho=>by cases ho⟩
 | x::q,u,h,fp,s,cs,f,g,id,S,r,hl,hu=>by
  simp only[zIx] at r;obtain⟨c1,c2,f1,f2,rfl,rfl,r1,r2⟩:=r;simp only[V.thawL] at hu ⊢;have k1:=zOf x id;have k2:=zDy q (x.thaw id).2.2;obtain⟨u1,h1,fp1,T1,q1,n1⟩:=zHj S r1 (by rw[<-List.append_assoc];exact hl) (fun o h1 h2=>hu o h1 (by omega))
  obtain⟨u2,h2,fp2,T2,q2,n2⟩:=zGm (id:=(x.thaw id).2.2) T1.sim r2 T1.loose (fun o h1 h2 ho=>by
   rcases T1.un o ho with ho|ho
   ·exact hu o (by omega) (by omega) ho
   ·omega)
  refine⟨u2,h2,fp2,T1.trans T2,?_,?_⟩
  ·simp only[RelSL]
   exact⟨c1,c2,rfl,q1.keep ⟨T2.le,fun b hb=>⟨hb,rfl⟩⟩ n1,q2⟩
  ·intro o ho
   simp only[V.mentionL,List.mem_append] at ho;rcases ho with ho|ho
   ·exact T2.uu o (n1 o ho)
   ·exact n2 o ho
theorem zOo {v:V} {x:Value} {f g:List Nat} {id:Nat} (S:Sim w0 fa sh u h fp s tm w) (r:zO1 h0 sh w v x f) (hl:Loose w0 fa sh s.obs fp w (f++g)) (hu:∀o,id<=o->o<(v.thaw id).2.2->¬u o) :
  ∃u' h' fp',Thawed w0 fa sh u h s tm w id (v.thaw id).2.2 (v.thaw id).2.1 g u' h' fp'/\RelS h' sh w (v.thaw id).1 x/\(∀o∈(v.thaw id).1.mention,u' o):=by
 by_cases hv:∃xs,v = .tup xs
 ·obtain⟨xs,rfl⟩:=hv
  obtain⟨cs,rfl,r⟩:=r;simp only[V.thaw,V.mention] at hu ⊢;obtain⟨u',h',fp',T,q,n⟩:=zGm S r hl hu;exact⟨u',h',fp',T,⟨cs,rfl,q⟩,n⟩
 ·have r':zT8 h0 sh w v x f:=by
   unfold zO1 at r;split at r
   ·exact absurd ⟨_,rfl⟩ hv
   ·exact r
  obtain⟨u',h',fp',T,q,n⟩:=zHj S r' hl hu;refine⟨u',h',fp',T,?_,n⟩
  have ha:∀xs,(v.thaw id).1≠.tup xs:=by
   intro xs e;cases v with
   | lst own sz xs=>cases own<;>simp[V.thaw] at e
   | agg xs=>simp[V.thaw] at e
   | tup xs=>exact hv ⟨xs,rfl⟩
   | _=>simp[V.thaw] at e
  unfold RelS;split
  ·rename_i e;exact absurd e (ha _)
  ·rename_i e;rw[e] at q;simp[RelS0,Rel] at q
  ·exact q
end
end Go.Proofs.YtbcgenkegnmkhaaGreat.Ev
namespace Go.Proofs.YtbcgenkegnmkhaaGreat.Ev
open Go
set_option linter.unusedSectionVars false
set_option linter.unusedSimpArgs false
section
variable {u : Nat->Prop} {h : Hs} {sh sh2 : Nat->Prop} {w w0 : World} {fa : List Nat} {fp : Nat->List Nat} {s : St} {tm : Array Value}
mutual
theorem zFt:∀{v:V} {cs:List Value} {f:List Nat},v.tidy=true->Rel h sh w v cs f->Rel h sh2 w v cs f
 | .lst own sz xs,cs,f,ht,r=>by
  simp only[V.tidy,Bool.and_eq_true,Bool.or_eq_true] at ht;cases own
  ·have hx:xs=[]:=by simpa using ht.1
   subst hx;simp only[Rel,Bool.false_eq_true,if_false] at r ⊢;obtain⟨e0,a,c,e,hc,r⟩:=r;refine⟨e0,a,c,e,hc,.inl ⟨trivial,?_⟩⟩;rcases r with⟨_,r0⟩|⟨_,_,_,_,ea,_⟩
   ·exact r0
   ·rw[ea];intro e;cases e
  ·simp only[Rel,if_true] at r ⊢
   rcases r with r|⟨b,off,c,ds,fps,e,ef,hc,hrow,hat,hr⟩
   ·exact .inl r
   ·exact .inr ⟨b,off,c,ds,fps,e,ef,hc,hrow,hat,zGh ht.2 hr⟩
 | .agg xs,cs,f,ht,r=>by
  simp only[V.tidy] at ht;simp only[Rel] at r ⊢;exact zG5 ht r
 | .int ..,cs,f,ht,r=>by simpa only[Rel] using r
 | .bool _,cs,f,ht,r=>by simpa only[Rel] using r
 | .str _,cs,f,ht,r=>by simpa only[Rel] using r
 | .emp _,cs,f,ht,r=>by simpa only[Rel] using r
 | .ref ..,cs,f,ht,r=>by simpa only[Rel] using r
 | .plc ..,cs,f,ht,r=>by simpa only[Rel] using r
 | .ptr ..,cs,f,ht,r=>by simpa only[Rel] using r
 | .und,cs,f,ht,r=>by simpa only[Rel] using r
 | .vptr _,cs,f,ht,r=>by simp[V.tidy] at ht
 | .clo ..,cs,f,ht,r=>by simp[V.tidy] at ht
 | .tup _,cs,f,ht,r=>by simp only[Rel] at r
 | .iol ..,cs,f,ht,r=>by simp only[Rel] at r
 | .iop _,cs,f,ht,r=>by simp only[Rel] at r
theorem zGh:∀{xs:List V} {z:Nat} {cs:List Value} {f:List Nat},V.tidyL xs=true->RelL h sh w z xs cs f->RelL h sh2 w z xs cs f
 | [],z,cs,f,ht,r=>by simpa only[RelL] using r
 | x::q,z,cs,f,ht,r=>by
  simp only[V.tidyL,Bool.and_eq_true] at ht;simp only[RelL] at r ⊢;obtain⟨c1,c2,f1,f2,e,ef,el,hm,r1,r2⟩:=r;exact⟨c1,c2,f1,f2,e,ef,el,hm,zFt ht.1 r1,zGh ht.2 r2⟩
theorem zG5:∀{xs:List V} {cs:List Value} {f:List Nat},V.tidyL xs=true->RelA h sh w xs cs f->RelA h sh2 w xs cs f
 | [],cs,f,ht,r=>by simpa only[RelA] using r
 | x::q,cs,f,ht,r=>by
  simp only[V.tidyL,Bool.and_eq_true] at ht;simp only[RelA] at r ⊢;obtain⟨c1,c2,f1,f2,e,ef,r1,r2⟩:=r;exact⟨c1,c2,f1,f2,e,ef,zFt ht.1 r1,zG5 ht.2 r2⟩
end
theorem zWk {z:Nat} {xs:List V} {cs:List Value} {f:List Nat} (ht:V.tidyL xs=true) (r:RelX h sh w z xs cs f) (hm:V.mentionL xs=[]):RelX h sh2 w z xs cs f :=
 (RelL.iff.1 (zGh ht (RelL.iff.2 ⟨r,jM hm⟩))).1
theorem zL3 {v:V} {x:Value} {f:List Nat} (ht:v.tidy=true) (r:zT8 h sh w v x f):zT8 h sh2 w v x f:=by
 obtain⟨hm,r⟩:=r;refine⟨hm,?_⟩;split at r
 ·obtain⟨cs,e,r⟩:=r
  exact⟨cs,e,zG5 (by simpa only[V.tidy] using ht) r⟩
 ·exact zFt ht r
theorem zMv:∀{xs:List V} {cs:List Value} {f:List Nat},V.tidyL xs=true->zIx h sh w xs cs f->zIx h sh2 w xs cs f
 | [],cs,f,ht,r=>r
 | x::q,cs,f,ht,r=>by
  simp only[V.tidyL,Bool.and_eq_true] at ht;simp only[zIx] at r ⊢;obtain⟨c1,c2,f1,f2,e,ef,r1,r2⟩:=r;exact⟨c1,c2,f1,f2,e,ef,zL3 ht.1 r1,zMv ht.2 r2⟩
theorem zXf {v:V} {x:Value} {f:List Nat} (ht:v.tidy=true) (r:zO1 h sh w v x f):zO1 h sh2 w v x f:=by
 unfold zO1 at r ⊢;split at r
 ·obtain⟨xs,e,r⟩:=r
  exact⟨xs,e,zMv (by simpa only[V.tidy] using ht) r⟩
 ·exact zL3 ht r
theorem zE1:∀{vs:List V} {xs:List Value} {outs:List V} {f:List Nat},V.tidyL outs=true->OutsR h sh w vs xs outs f->OutsR h sh2 w vs xs outs f
 | [],xs,outs,f,ht,r=>r
 | v::q,xs,outs,f,ht,r=>by
  unfold OutsR at r ⊢;split at r
  ·obtain⟨x,p,ys,o,f1,f2,e,rfl,ef,hm,hr,r2⟩:=r
   simp only[V.tidyL,V.tidy,Bool.and_eq_true] at ht;refine⟨x,p,ys,o,f1,f2,e,rfl,ef,hm,?_,zE1 ht.2 r2⟩;rcases hr with hr|⟨b,off,n,c,ds,fps,e1,e2,hl,hrow,hat,hX⟩
   ·exact .inl hr
   ·exact .inr ⟨b,off,n,c,ds,fps,e1,e2,hl,hrow,hat,zWk ht.1.2 hX hm⟩
  ·obtain⟨x,p,y,o,f1,f2,e,rfl,ef,hm,⟨b,off,ds,fps,e1,e2,hrow,hat,hr⟩,r2⟩:=r
   simp only[V.tidyL,Bool.and_eq_true] at ht;exact⟨x,p,y,o,f1,f2,e,rfl,ef,hm,⟨b,off,ds,fps,e1,e2,hrow,hat,zFt ht.1 hr⟩,zE1 ht.2 r2⟩
  ·obtain⟨x,p,e,r2⟩:=r
   exact⟨x,p,e,zE1 ht r2⟩
mutual
theorem zN3 {s s':St}:∀{v:V},v.mention=[]->v.snap s=v.snap s'
 | .agg xs,hm=>by simp only[V.snap];rw[zIk (by simpa only[V.mention] using hm)]
 | .int ..,hm=>rfl
 | .bool _,hm=>rfl
 | .str _,hm=>rfl
 | .lst ..,hm=>rfl
 | .emp _,hm=>rfl
 | .vptr _,hm=>rfl
 | .ref ..,hm=>by simp[V.mention] at hm
 | .plc ..,hm=>by simp[V.mention] at hm
 | .ptr ..,hm=>rfl
 | .clo ..,hm=>rfl
 | .und,hm=>rfl
 | .tup _,hm=>rfl
 | .iol ..,hm=>rfl
 | .iop _,hm=>rfl
theorem zIk {s s':St}:∀{xs:List V},V.mentionL xs=[]->V.snapL s xs=V.snapL s' xs
 | [],hm=>rfl
 | x::r,hm=>by
  obtain⟨m1,m2⟩:=vO (show x.mention++V.mentionL r=[] from hm);simp only[V.snapL];rw[zN3 (s:=s) (s':=s') m1,zIk (s:=s) (s':=s') m2]
end
theorem zJ2 {s s':St} {v:V} (hm:v.mention=[]):v.snapP s=v.snapP s':=by
 unfold V.snapP;split
 ·simp[V.mention] at hm
 ·exact zN3 hm
theorem zH9 {s s':St}:∀{xs:List V},V.mentionL xs=[]->V.snapPL s xs=V.snapPL s' xs
 | [],hm=>rfl
 | x::r,hm=>by
  obtain⟨m1,m2⟩:=vO (show x.mention++V.mentionL r=[] from hm);simp only[V.snapPL];rw[zJ2 (s:=s) (s':=s') m1,zH9 (s:=s) (s':=s') m2]
theorem zT2 {s s':St} {v:V} (hm:v.mention=[]):v.snapA s=v.snapA s':=by
 unfold V.snapA;split
 ·rw[zH9 (s:=s) (s':=s') (by simpa only[V.mention] using hm)]
 ·exact zJ2 hm
theorem zM0 {s1:St} {ms:List Md} {v:V} {a:V×St×List (Nat×Ob)} (h:qU s1 (ms.headD .snap) v=some a) (hm:ms.headD .snap = .snap):a.1=v:=by
 rw[hm] at h;simp only[qU] at h;split at h
 ·cases h
 ·simp only[Option.some.injEq] at h
  rw[<-h]
theorem zAy {s':St}:∀{vs:List V} {ms:List Md} {s1 s2:St} {a:List V×St×List (Nat×Ob)},jW ms vs s1=some a->xU ms vs=[]->jI s2 ms a.1=jI s' ms a.1
 | [],ms,s1,s2,a,hl,hp=>by simp only[jW,Option.some.injEq] at hl;subst hl;rfl
 | v::r,ms,s1,s2,a,hl,hp=>by
  simp only[jW] at hl;cases h1:qU s1 (ms.headD .snap) v with
  | none=>rw[h1] at hl;cases hl
  | some x =>
   rw[h1] at hl;simp only at hl;cases h2:jW ms.tail r x.2.1 with
   | none=>rw[h2] at hl;cases hl
   | some y =>
    rw[h2] at hl;simp only[Option.some.injEq] at hl;subst hl;simp only[jI];cases hm:ms.headD .snap with
    | snap =>
     simp only[xU,hm] at hp;obtain⟨p1,p2⟩:=vO hp;have hx:=zM0 h1 hm;simp only;rw[hx,zT2 (s:=s2) (s':=s') p1,zAy (s2:=s2) h2 p2]
    | take =>
     simp only[xU,hm] at hp;simp only;rw[zAy (s2:=s2) h2 hp]
    | io =>
     simp only[xU,hm] at hp;simp only;rw[zAy (s2:=s2) h2 hp]
theorem Sim.bare (S:Sim w0 fa sh u h fp s tm w):Sim w0 fa sh u h fp { s with obs:=[] } tm w :=
 ⟨S.size,S.old,fun o ob e=>(by cases e),fun o ob e=>(by cases e),fun o o' ob ob' e=>(by cases e),fun b hb=>⟨(S.shr b hb).1,fun o ob e=>(by cases e)⟩,S.env⟩
theorem ArgsR.same {sh':Nat->Prop} (hs:∀b,sh b->sh' b):∀{vs:List V} {xs:List Value} {f:List Nat},ArgsR h sh w vs xs f->ArgsR h sh' w vs xs f
 | [],xs,f,r=>r
 | v::q,xs,f,r=>by
  simp only[ArgsR] at r ⊢;obtain⟨x,p,f1,f2,e,ef,r1,r2⟩:=r;exact⟨x,p,f1,f2,e,ef,r1.wide hs,ArgsR.same hs r2⟩
theorem zIa {s1:St} {h1:Hs} {fp1:Nat->List Nat} {f:List Nat} (S1:Sim w0 fa sh u h1 fp1 s1 tm w) (hl:Loose w0 fa sh s1.obs fp1 w f) {w':World} {sh':Nat->Prop} (hsz:Grew w w')
  (hold:∀b,b<w.heap.size->b ∉ f->w'.heap[b]? = w.heap[b]?) (hss:∀b,sh b->sh' b) (hsn:∀b,sh' b->b<w'.heap.size/\(sh b\/(b<w.heap.size->b∈f))) :
  Sim w0 fa sh' u h1 fp1 s1 tm w':=by
 refine S1.step (s':=s1) (fp':=fp1) (fun _ h=>h) (Hs.Le.refl u h1) rfl hsz ?_ ?_ ?_ ?_ S1.apart
 ·intro b hb hn
  exact hold b (Nat.lt_of_lt_of_le hb S1.size.sz) (fun hf=>hn ((hl.ok b hf).2.1 hb))
 ·intro b hb
  exact⟨hss b hb,hold b (S1.shr b hb).1 (fun hf=>(hl.ok b hf).2.2.1 hb)⟩
 ·intro b hb
  refine⟨(hsn b hb).1,fun o ob ho hm=>?_⟩;rcases(hsn b hb).2 with h|h
  ·exact(S1.shr b h).2 o ob ho hm
  ·exact(hl.ok b (h ((S1.own o ob ho).2 b hm).1)).2.2.2 o ob ho hm
 ·intro o ob ho
  exact .inl ⟨ho,rfl,rfl,fun b hb=>hold b ((S1.own o ob ho).2 b hb).1 (fun hf=>(hl.ok b hf).2.2.2 o ob ho hb)⟩
theorem Loose.swap {obs:List (Nat×Ob)} {f g:List Nat} (l:Loose w0 fa sh obs fp w (f++g)):Loose w0 fa sh obs fp w (g++f) :=
 ⟨List.perm_append_comm.nodup l.nd,fun b hb=>l.ok b (List.mem_append.2 ((List.mem_append.1 hb).symm))⟩
end
section
variable {P : Program} {u : Nat->Prop} {h : Hs} {sh : Nat->Prop} {w w0 : World} {fa : List Nat} {fp : Nat->List Nat} {s : St} {a : Act}
theorem zO2:∀{vs:List V} {xs:List Operand},vs.length=xs.length->(∀(i:Nat) (v:V),vs[i]? = some v->∃x,xs[i]? = some x/\RelS h sh w v (a.eval x)/\(∀o∈v.mention,u o)/\v≠.und)->ValsR h sh u w vs (xs.map a.eval)
 | [],[],_,_=>rfl
 | [],_::_,e,_=>by simp at e
 | _::_,[],e,_=>by simp at e
 | v::q,x::r,e,hr=>by
  obtain⟨x',hx,r1,m1,n1⟩:=hr 0 v rfl;simp only[List.getElem?_cons_zero,Option.some.injEq] at hx;subst hx;exact⟨a.eval x,r.map a.eval,rfl,r1,m1,n1,zO2 (by simpa using e) (fun i v hi=>hr (i+1) v hi)⟩
theorem ValsR.append:∀{vs ws:List V} {xs ys:List Value},ValsR h sh u w vs xs->ValsR h sh u w ws ys->ValsR h sh u w (vs++ws) (xs++ys)
 | [],ws,xs,ys,r1,r2=>by simp only[ValsR] at r1;subst r1;exact r2
 | v::q,ws,xs,ys,r1,r2=>by
  simp only[ValsR] at r1;obtain⟨x,p,rfl,r,m,n,r1⟩:=r1;exact⟨x,p++ys,rfl,r,m,n,r1.append r2⟩
theorem zPd {c:V} {q:List V} (h:V.capsOk (c::q)=true):c.aggOf=none/\c.isTup=false/\c≠.und/\V.capsOk q=true:=by
 cases c<;>first|(simp[V.capsOk] at h;done)|exact⟨rfl,rfl,by simp,h⟩
theorem zHn:∀{cs:List V} {xs:List Value},RelC h sh w cs xs->(∀o∈V.mentionL cs,u o)->V.capsOk cs=true->ValsR h sh u w cs xs
 | [],xs,r,_,_=>by simp only[RelC] at r;exact r
 | c::q,xs,r,hm,hn=>by
  simp only[RelC] at r;obtain⟨x,p,rfl,r1,r2⟩:=r;obtain⟨ha,ht,hu,hn⟩:=zPd hn;refine⟨x,p,rfl,?_,fun o ho=>hm o (by simp[V.mentionL,ho]),hu,zHn r2 (fun o ho=>hm o (by simp[V.mentionL,ho])) hn⟩;exact qV r1 ha hu
theorem zJz {o:Oper} {c:Go.Call} {fo:Operand} {f:FuncId} {fn:Func} {vs:Array Value} (ho:o.op = .call c) (hc:c.callee = .value fo) (hf:a.eval fo = .func (.func f) #[] vs) (hfn:P.funcs[f]? = some fn) (hb:fn.body.isSome=true)
  (hn:(fn.name=="runtime.NumGoroutine")=false):(execOp a.eval o).run P w = .ok (.enter f (c.args.map a.eval++vs)) w:=by
 unfold execOp;rw[ho];simp only[]
 have:(resolve a.eval c o.type).run P w = .ok { target:=.fn (.func f) vs,args:=c.args.map a.eval } w:=by
  unfold resolve;rw[hc];simp only[hf,Deferred.ofValue,Array.empty_append];rfl
 rw[zD this];simp only[invoke,callFunc];have hp:(program).run P w = .ok P w:=rfl;rw[zD hp,hfn];have hb':fn.body.isNone=false:=by cases hx:fn.body<;>simp_all
 simp only[hn,hb',Bool.false_eq_true,if_false]
 rfl
theorem zCm {tm:Array Value} {cfg:Cfg} {call:Call} (K:jP P call) (S:Sim w0 fa sh u h fp s tm w) {f:FuncId} {vs:List V} {reals:List Value} {id:Nat} {v:V} {s':St} (hV:ValsR h sh u w vs reals)
  (hr:xM call cfg s id f vs=some (v,s')) (hid:∀o,id<=o->o<id+32->¬u o) :
  (∃fn,P.funcs[f]? = some fn/\fn.body.isSome=true/\(fn.name=="runtime.NumGoroutine")=false) /\
  ∀lent,jW (cfg.md f) vs s=some lent->Calls P f reals.toArray w (fun e w'=>∃x,e = .returned x/\Turn w0 fa sh u h s' tm id v x w' /\
   ∀o ob b off c z,zO lent.2.1.obs o=some ob->h.hd o=some (b,off,c,z)->w'.heap[b]? = w.heap[b]?):=by
 unfold xM at hr;cases h1:jW (cfg.md f) vs s with
 | none=>rw[h1] at hr;cases hr
 | some lent =>
  rw[h1] at hr;simp only at hr;cases h2:jI lent.2.1 (cfg.md f) lent.1 with
  | none=>rw[h2] at hr;cases hr
  | some asv =>
   rw[h2] at hr;simp only at hr;cases h3:call f asv with
   | none=>rw[h3] at hr;cases hr
   | some r =>
    rw[h3] at hr;simp only at hr;split at hr
    ·rename_i hcond
     obtain⟨hcase,hth⟩:=hcond;cases h4:vV lent.2.2 r.2 lent.2.1 with
     | none=>rw[h4] at hr;cases hr
     | some s2 =>
      rw[h4] at hr;simp only[Option.some.injEq,Prod.mk.injEq] at hr;obtain⟨rfl,rfl⟩:=hr;obtain⟨hh1,fp1,fl,F,hL,hB,habs,hnd⟩:=zAw S hV h1;obtain⟨hfn,hcall⟩:=K f asv r.1 r.2 h3;obtain⟨fn,hfn,hbody,hname⟩:=hfn;refine⟨⟨fn,hfn,hbody,hname⟩,fun lent' hl'=>?_⟩;cases hl'
      have kept:∀{w':World},(∀b,b<w.heap.size->b ∉ fl->w'.heap[b]? = w.heap[b]?)->∀o ob b off c z,zO lent.2.1.obs o=some ob->h.hd o=some (b,off,c,z)->w'.heap[b]? = w.heap[b]?:=by
       intro w' hold o ob b off c z ho hd;obtain⟨huo,R⟩:=F.sim.obs o ob ho;have hr:=R.row;rw[F.le.hd o huo,hd] at hr;obtain⟨_,_,_,ds,fps,hfp,_⟩:=hr;have hb:b∈fp1 o:=by rw[hfp];exact List.mem_cons_self ..
       exact hold b ((F.sim.own o ob ho).2 b hb).1 (fun hf=>(F.loose.ok b hf).2.2.2 o ob ho hb)
      have fin:∀(shc:Nat->Prop) (shq:Nat->Prop) (x:Value) (w':World) (h':Hs) (fr fo:List Nat),BacksR u hh1 asv (reals) lent.2.2 ->
        zO1 h' shq w' r.1 x fr->OutsR h' shq w' asv (reals) r.2 fo->(fr++fo).Nodup->(∀b∈fr++fo,b<w'.heap.size/\(b<w.heap.size->b∈fl)/\¬shq b)->Grew w w' ->
        (∀b,b<w.heap.size->b ∉ fl->w'.heap[b]? = w.heap[b]?)->(∀b,sh b->shq b)->(∀b,shq b->b<w'.heap.size/\(sh b\/(b<w.heap.size->b∈fl)))->Turn w0 fa sh u h { s2 with obs:=(r.1.thaw id).2.1++s2.obs } tm id (r.1.thaw id).1 x w':=by
       intro shc shq x w' h' fr fo hBB hret hout hndf hown hsz hold hss hsn;have S2:=zIa F.sim F.loose hsz hold hss hsn
       have hloose:Loose w0 fa shq lent.2.1.obs fp1 w' (fr++fo):=by
        refine⟨hndf,fun b hb=>⟨(hown b hb).1,fun hb0=>?_,(hown b hb).2.2,fun o ob hob hbo=>?_⟩⟩
        ·exact(F.loose.ok b ((hown b hb).2.1 (Nat.lt_of_lt_of_le hb0 S.size.sz))).2.1 hb0
        ·exact(F.loose.ok b ((hown b hb).2.1 ((F.sim.own o ob hob).2 b hbo).1)).2.2.2 o ob hob hbo
       obtain⟨h3,fp3,S3,hle3,e1,e2,hg⟩:=zCk S2 hBB hout hloose.right (fun p hp=>(habs p hp).2) hnd h4;have hl3:=hg fr hloose.swap;obtain⟨u',h4',fp4,T,hR,hM⟩:=zOo (g:=[]) (id:=id) S3 hret (by rw[List.append_nil];exact hl3) (fun o h1 h2=>hid o h1 (by omega));refine⟨shq,u',h4',fp4,T.sim,hR,hM,fun o ho=>?_,hss,fun b hb=>?_,F.le.trans (hle3.trans T.le (fun _ h=>h)) (fun _ h=>h),T.uu⟩
       ·rcases T.un o ho with ho|ho
        ·exact .inl ho
        ·exact .inr (by omega)
       ·rcases(hsn b hb).2 with hb|hb
        ·exact .inl hb
        ·refine .inr (fun hb0=>?_)
         exact(F.loose.ok b (hb (Nat.lt_of_lt_of_le hb0 S.size.sz))).2.1 hb0
      rcases hcase with hpl|⟨ht1,ht2⟩
      ·-- no argument speaks of an object
       have hpl':xU (cfg.md f) vs=[]:=List.isEmpty_iff.1 hpl;rw[zAy (s':={ lent.2.1 with obs:=[] }) h1 hpl'] at h2;obtain⟨hA,hBB⟩:=zC5 F.sim.bare hL hB h2
       have hA':ArgsR hh1 sh w asv (reals) fl:=hA.same (fun b hb=>by
        rcases hb with hb|⟨o,ob,e,_⟩
        ·exact hb
        ·cases e)
       refine(hcall hh1 sh w _ fl hA' F.loose.nd (fun b hb=>⟨(F.loose.ok b hb).1,(F.loose.ok b hb).2.2.1⟩) (fun b hb=>(S.shr b hb).1)).mono ?_;rintro e w' ⟨x,rfl,h',sh',fr,fo,L⟩;exact⟨x,rfl,fin sh' sh' x w' h' fr fo hBB L.ret L.out L.nd (fun b hb=>L.own b hb) L.size L.old L.shs L.shn,kept L.old⟩
      ·obtain⟨hA,hBB⟩:=zC5 F.sim hL hB h2
       have hwide:∀b,zHu sh lent.2.1 fp1 b->b<w.heap.size:=by
        rintro b (hb|⟨o,ob,e,hb⟩)
        ·exact(F.sim.shr b hb).1
        ·exact((F.sim.own o ob e).2 b hb).1
       refine(hcall hh1 (zHu sh lent.2.1 fp1) w _ fl hA F.loose.nd (fun b hb=>⟨(F.loose.ok b hb).1,?_⟩) hwide).mono ?_
       ·rintro(hb'|⟨o,ob,e,hb'⟩)
        ·exact(F.loose.ok b hb).2.2.1 hb'
        ·exact(F.loose.ok b hb).2.2.2 o ob e hb'
       rintro e w' ⟨x,rfl,h',sh',fr,fo,L⟩;refine⟨x,rfl,fin sh' sh x w' h' fr fo hBB (zXf ht1 L.ret) (zE1 ht2 L.out) L.nd (fun b hb=>⟨(L.own b hb).1,(L.own b hb).2.1,fun hs=>(L.own b hb).2.2 (L.shs b (.inl hs))⟩) L.size L.old (fun _ h=>h) (fun b hb=>⟨Nat.lt_of_lt_of_le (S.shr b hb).1 L.size.sz,.inl hb⟩),kept L.old⟩
    ·cases hr
theorem qEm {cfg:Cfg} {call:Call} (K:jP P call) (S:Sim w0 fa sh u h fp s a.tmps w) {o:Oper} {c:Go.Call} {fo:Operand} {f:FuncId} {cs vs:List V} {id:Nat} {v:V} {s':St} (ho:o.op = .call c) (hc:c.callee = .value fo)
  (hf:opV s.env fo=some (.clo f cs)) (hk:V.capsOk cs=true) (hv:kW s.env c.args.toList=some vs) (hr:xM call cfg s id f (vs++cs)=some (v,s')) (hid:∀o,id<=o->o<id+32->¬u o) :
  Does P o a w (Turn w0 fa sh u h s' a.tmps id v):=by
 obtain⟨rf,mf,_⟩:=zY S hf;simp only[RelS,RelS0,Rel,List.cons.injEq,and_true,true_and] at rf;obtain⟨caps,ef,rc⟩:=rf;obtain⟨hl,hvr⟩:=xP S hv;have hV:ValsR h sh u w (vs++cs) (c.args.toList.map a.eval++caps.toList):=(zO2 hl hvr).append (zHn rc (by simpa only[V.mention] using mf) hk);obtain⟨⟨fn,hfn,hbody,hname⟩,hcall⟩:=zCm K S hV hr hid;have hrun:=zJz (w:=w) ho hc ef hfn hbody hname;refine zEo hrun ?_
 have eqargs:c.args.map a.eval++caps=(c.args.toList.map a.eval++caps.toList).toArray:=by
  apply Array.toList_inj.1;simp
 rw[eqargs];cases h1:jW (cfg.md f) (vs++cs) s with
 | none=>unfold xM at hr;rw[h1] at hr;cases hr
 | some lent =>
  refine(hcall lent h1).mono ?_;rintro e w' ⟨x,rfl,T,_⟩;exact⟨x,rfl,T⟩
end
section
variable {P : Program} {u : Nat->Prop} {h : Hs} {sh : Nat->Prop} {w w0 : World} {fa : List Nat} {fp : Nat->List Nat} {s : St} {a : Act}
theorem zYi (S:Sim w0 fa sh u h fp s a.tmps w) {o:Oper} {op:BinOp} {t t2:TypeId} {x y:Operand} {vx vy v:V} (ho:o.op = .binOp op t x y t2)
  (hx:opV s.env x=some vx) (hy:opV s.env y=some vy) (hv:zF5 op vx vy=some v):Does P o a w (zE6 h sh u w v):=by
 have rx:=(zY S hx).1;have ry:=(zY S hy).1;unfold zF5 at hv;split at hv
 ·rename_i k m
  split at hv
  ·rename_i k' n
   rw[relS_int] at rx ry;split at hv
   ·cases hv
   ·rename_i hn
    have hg:(eqGuard op t x y (.int k m) (.int k' n)).run P w = .ok () w:=by
     split at hv<;>first|(cases hv;done)|rfl
    have key:∀z,(binOp op t (.int k m) (.int k' n)).run P w = .ok z w->(execOp a.eval o).run P w = .ok (.value z) w:=by
     intro z hz;unfold execOp;rw[ho];simp only[];rw[rx,ry]
     have h1:((eqGuard op t x y (.int k m) (.int k' n) >>= fun _=>binOp op t (.int k m) (.int k' n)):Sem Value).run P w = .ok z w:=by
      rw[zD hg];exact hz
     exact zD h1
    split at hv
    ·cases hv
     refine qN (x:=.int k (k.wrap (m * 2 ^ min n.toNat k.bits))) (w':=w) (key _ ?_) ⟨rfl,relS_int.2 rfl,by intro q hq;cases hq⟩;simp only[binOp,Op.shift];rw[if_neg hn]
     rfl
    ·cases hv
     refine qN (x:=.int k (m.fdiv (2 ^ min n.toNat k.bits))) (w':=w) (key _ ?_) ⟨rfl,relS_int.2 rfl,by intro q hq;cases hq⟩;simp only[binOp,Op.shift];rw[if_neg hn]
     rfl
    ·cases hv
  ·cases hv
 ·cases hv
theorem zSf {cfg:Cfg} (C:CfgOK P cfg) (S:Sim w0 fa sh u h fp s a.tmps w) {o:Oper} {ts t:TypeId} {x:Operand} {k k0:IntKind} {n:Int} (ho:o.op = .convert ts t x) (hts:∃d,P.underlying ts=some d)
  (ht:cfg.ints t=some k) (hx:opV s.env x=some (.int k0 n)):Does P o a w (zE6 h sh u w (.int k (k.wrap n))):=by
 have rx:=(zY S hx).1;rw[relS_int] at rx;have hk:=C.ints t k ht;obtain⟨d,hd⟩:=hts;refine qN (x:=.int k (k.wrap n)) (w':=w) ?_ ⟨rfl,relS_int.2 rfl,by intro q hq;cases hq⟩;unfold execOp;rw[ho];simp only[];rw[rx]
 have h1:(convert ts t (.int k0 n)).run P w = .ok (.int k (k.wrap n)) w:=by
  unfold convert;rw[zD (zZ hd),zD (zZ hk)];cases d<;>rfl
 exact zD h1
theorem zZs {cfg:Cfg} (C:CfgOK P cfg) (S:Sim w0 fa sh u h fp s a.tmps w) {o:Oper} {t:TypeId} {x i:Operand} {k:IntKind} {n:Int} {b:ByteArray} {c:UInt8} (ho:o.op = .index t x i) (ht:cfg.strT t=true)
  (hx:opV s.env x=some (.str b)) (hi:opV s.env i=some (.int k n)) (h0:0<=n) (hc:b[n.toNat]? = some c):Does P o a w (zE6 h sh u w (.int .u8 c.toNat)):=by
 have rx:=(zY S hx).1;have ri:=(zY S hi).1;rw[zYs] at rx;rw[relS_int] at ri;have hk:=C.str t ht;refine qN (x:=.int .u8 c.toNat) (w':=w) ?_ ⟨rfl,relS_int.2 rfl,by intro q hq;cases hq⟩;unfold execOp;rw[ho];simp only[];rw[rx,ri]
 have h1:(Instr.index t (.string b) (.int k n)).run P w = .ok (.int .u8 c.toNat) w:=by
  unfold Instr.index;rw[zD (show(asIntOf (.int k n)).run P w = .ok (k,n) w from rfl)];simp only[];rw[zD (zZ hk)];simp only[if_pos h0,hc]
  rfl
 exact zD h1
theorem Does.mono {o:Oper} {R R':Value->World->Prop} (hd:Does P o a w R) (hr:∀x w',R x w'->R' x w'):Does P o a w R' :=
 fun K Q hK=>hd K Q (fun x w' hx=>hK x w' (hr x w' hx))
theorem qM (S:Sim w0 fa sh u h fp s a.tmps w) {o:Oper} {v:V} {id:Nat} (hd:Does P o a w (zE6 h sh u w v)):Does P o a w (Turn w0 fa sh u h s a.tmps id v) :=
 hd.mono fun x w' ⟨e,r,m⟩=>by subst e;exact⟨sh,u,h,fp,S,r,m,fun _ h=>.inl h,fun _ h=>h,fun _ h=>.inl h,Hs.Le.refl u h,fun _ h=>h⟩
theorem zE4 {cfg:Cfg} {t:TypeId} {z:V} (hz:(cfg.elem t).bind cfg.zero=some z):∃e,cfg.elem t=some e/\cfg.zero e=some z:=by
 cases he:cfg.elem t with
 | none=>rw[he] at hz;cases hz
 | some e=>rw[he] at hz;exact⟨e,rfl,hz⟩
theorem zE {α β:Type} {x:Option α} {f:α->β} {y:β} (h:mp x f=some y):∃a,x=some a/\f a=y:=by
 cases x with
 | none=>cases h
 | some a=>exact⟨a,rfl,by simpa [mp] using h⟩
theorem zRu {cfg:Cfg} (C:CfgOK P cfg) (S:Sim w0 fa sh u h fp s a.tmps w) {o:Oper} {c:Go.Call} {b:Builtin} {vs:List V} {id base:Nat} {v:V} {s':St} (ho:o.op = .call c) (hc:c.callee = .builtin b) (hx:kW s.env c.args.toList=some vs)
  (he:jV cfg s c.argTypes id base b vs=some (v,s')) (hid:¬u id):Does P o a w (Turn w0 fa sh u h s' a.tmps id v):=by
 have hcb:=hc;unfold jV at he;split at he
 ·split at he
  ·cases he
  rename_i t h1
  split at he
  ·rename_i x hel
   obtain⟨n,h2,e⟩:=zE he;cases e;exact qM S (qLn C S ho hc h1 hel hx h2)
  ·cases he
 ·split at he
  ·cases he
  rename_i t h1
  split at he
  ·cases he
  rename_i t' h2
  split at he
  ·cases he
  rename_i z hz
  split at he
  ·rename_i hc
   cases he;exact zSb C S ho hcb hx h1 h2 hz hc.1 hc.2.1 hc.2.2 hid
  ·cases he
 ·rename_i x y
  split at he
  ·cases he
  rename_i t h1
  split at he
  ·cases he
  rename_i t' h2
  split at he
  ·rename_i hel
   obtain⟨vx,vy,ea,rx,ry,mx,my⟩:=zDn S hx;obtain⟨vr,w',hrun,hT⟩:=zO5 (ty:=o.type) C S h1 h2 hel hid rx ry mx my he;refine qN ?_ hT;rw[yI ho hc,ea];exact zD hrun
  ·cases he
 ·split at he
  ·cases he
  rename_i t h1
  split at he
  ·cases he
  rename_i z hz
  split at he
  ·cases he
  rename_i ob hob
  split at he
  ·rename_i hcnd
   cases he;exact qA8 C S ho hcb hx h1 hz hob hcnd.1 hcnd.2.2.1 hcnd.2.2.2.1 hcnd.2.2.2.2
  ·cases he
 ·split at he
  ·cases he
  rename_i t h1
  split at he
  ·rename_i hel
   cases he;exact qM S (qKn C S ho hc h1 hel hx)
  ·cases he
 ·obtain⟨n,h2,e⟩:=zE he;cases e
  exact qM S (qN2 S ho hc hx h2)
 ·obtain⟨n,h2,e⟩:=zE he;cases e
  exact qM S (qIp S ho hc hx h2)
 ·cases he
theorem zQ4 {cfg:Cfg} {call:Call} (C:CfgOK P cfg) (K:jP P call) (hI:∀f vs s id,call.i f vs s id=none) (S:Sim w0 fa sh u h fp s a.tmps w) {o:Oper} {id base:Nat} {v:V} {s':St} (he:opE call cfg id base s o.type o.op=some (v,s'))
  (hid:∀q,id<=q->q<id+32->¬u q):Does P o a w (Turn w0 fa sh u h s' a.tmps id v):=by
 have hid0:¬u id:=hid id (Nat.le_refl _) (by omega);unfold opE at he;split at he
 case h_1 x hop =>
  obtain⟨v1,h1,e⟩:=zE he;cases e;exact qM S (zNj S (.inl hop) h1)
 case h_2 x hop =>
  obtain⟨v1,h1,e⟩:=zE he;cases e;exact qM S (zNj S (.inr hop) h1)
 case h_3 c x y hop =>
  split at he
  ·cases he
  rename_i vc h1
  split at he
  ·obtain⟨v1,h2,e⟩:=zE he;cases e
   exact qM S (qCo S hop h1 h2)
  ·cases he
 case h_4 t hop =>
  obtain⟨z,h1,e⟩:=zE he;cases e;exact zZh C S hop h1 hid0
 case h_5 t x hop =>
  split at he
  ·cases he
  rename_i vx h1
  split at he
  ·cases he
  rename_i z h2
  split at he
  ·rename_i hc;cases he
   exact qJi S hop h1 hc.1 hc.2 hid0
  ·cases he
 case h_6 t ps hop =>
  split at he
  ·cases he
  rename_i z h1
  split at he
  ·split at he
   ·rename_i hfl
    split at he
    ·cases he
    rename_i l h2
    obtain⟨xs,h3,e⟩:=zE he;cases e;exact qM S (qA6 C S hop h1 hfl h2 h3)
   ·cases he
  ·cases he
 case h_7 t n ps hop =>
  split at he
  ·cases he
  rename_i z h1
  split at he
  ·cases he
  rename_i l h2
  split at he
  ·rename_i hc
   obtain⟨r,h3,e⟩:=zE he;cases e;obtain⟨e,k1,k2⟩:=zE4 h1;exact zJr C S hop k1 k2 h2 hc.1 hc.2.1 hc.2.2 h3 hid0
  ·cases he
 case h_8 t x hop =>
  split at he
  ·cases he
  rename_i z h1
  split at he
  ·cases he
  rename_i vx h2
  obtain⟨y,h3,e⟩:=zE he;cases e;exact qM S (qFo C S hop h1 h2 h3)
 case h_9 t x y hop =>
  split at he
  ·cases he
  rename_i z h1
  split at he
  ·cases he
  rename_i vx h2
  split at he
  ·cases he
  rename_i vy h3
  obtain⟨s1,h4,e⟩:=zE he;cases e;exact zY2 C S hop h1 h2 h3 h4
 case h_10 x hop =>
  split at he
  ·cases he
  rename_i vx h1
  split at he
  ·cases he
   exact qM S (zGp S hop h1 (.inl ⟨_,_,_,rfl⟩))
  ·cases he
   exact qM S (zGp S hop h1 (.inr ⟨_,rfl⟩))
  ·cases he
 case h_11 op t x y t2 hop =>
  split at he
  ·cases he
  rename_i vx h1
  split at he
  ·rename_i hn
   obtain⟨v1,h2,e⟩:=zE he;cases e;exact qM S (qMq C S hop h1 hn h2)
  ·split at he
   ·cases he
   rename_i vy h2
   split at he
   ·obtain⟨v1,h3,e⟩:=zE he;cases e
    exact qM S (zYi S hop h1 h2 h3)
   ·obtain⟨v1,h3,e⟩:=zE he;cases e
    exact qM S (qHw C S hop h1 h2 h3)
 case h_12 ts t x hop =>
  split at he
  ·cases he
  rename_i k0 h0
  split at he
  ·cases he
  rename_i k h1
  split at he
  ·cases he
  rename_i vx h2
  split at he
  ·cases he
   exact qM S (zSf C S hop ⟨_,C.ints ts k0 h0⟩ h1 h2)
  ·cases he
 case h_13 op t x hop =>
  split at he
  ·cases he
  rename_i vx h1
  obtain⟨v1,h2,e⟩:=zE he;cases e;exact qM S (op_un S hop h1 h2)
 case h_14 f first caps hop =>
  split at he
  ·rename_i hf
   split at he
   ·cases he
   rename_i cs h1
   split at he
   ·rename_i hk
    cases he;refine qM S (zNz S hop hf h1 ?_)
    clear h1
    intro c hc
    induction cs with
    | nil=>cases hc
    | cons x q ih =>
     obtain⟨k1,k2,k3,k4⟩:=zPd hk;rcases List.mem_cons.1 hc with rfl|hc
     ·exact⟨k1,k2⟩
     ·exact ih k4 hc
   ·cases he
  ·cases he
 case h_15 t x y hop =>
  split at he
  ·cases he
  rename_i vx h1
  split at he
  ·cases he
  rename_i vy h2
  split at he
  ·cases he
  rename_i z h3
  split at he
  ·split at he
   ·rename_i hc
    cases he;obtain⟨c1,c2,c3⟩:=hc;subst c3;obtain⟨e,k1,k2⟩:=zE4 h3;exact zLj C S hop h1 h2 k1 k2 c1 c2 hid0
   ·cases he
  ·cases he
 case h_16 t x lo hi hop =>
  split at he
  ·cases he
  rename_i vx h1
  split at he
  ·cases he
  rename_i vl h2
  split at he
  ·cases he
  rename_i vh h3
  obtain⟨v1,h4,e⟩:=zE he;cases e;exact qM S (zY3 C S hop h1 h2 h3 h4)
 case h_17 t x i hop =>
  split at he
  ·cases he
  rename_i vx h1
  obtain⟨v1,h2,e⟩:=zE he;cases e;exact qM S (zKn C S hop h1 h2)
 case h_18 t x i hop =>
  split at he
  ·cases he
  rename_i vx h1
  split at he
  ·split at he
   ·rename_i hf
    obtain⟨v1,h2,e⟩:=zE he;cases e;exact qM S (zXk C S hop h1 hf h2)
   ·cases he
  ·cases he
 case h_19 t x i hop =>
  split at he
  ·cases he
  rename_i vx h1
  split at he
  ·cases he
  rename_i vi h2
  split at he
  ·obtain⟨v1,h3,e⟩:=zE he;cases e
   exact qM S (zL7 C S hop h1 h2 h3)
  ·cases he
 case h_20 x i hop =>
  split at he
  ·cases he
  rename_i vx h1
  split at he
  ·obtain⟨v1,h2,e⟩:=zE he;cases e
   exact qM S (zSz S hop h1 h2)
  ·cases he
 case h_21 c hop =>
  split at he
  ·cases he
  rename_i vs h1
  split at he
  ·rename_i b hc
   exact zRu C S hop hc h1 he hid0
  ·rename_i f hc
   split at he
   ·cases he
   rename_i vf h2
   split at he
   ·split at he
    ·rename_i hk
     split at he
     ·rw[hI] at he;cases he
     ·exact qEm K S hop hc h2 hk h1 he hid
    ·cases he
   ·cases he
  ·cases he
 case h_22 t x i hop =>
  split at he
  ·rename_i ht
   split at he
   ·cases he
   rename_i vx h1
   split at he
   ·split at he
    ·cases he
    rename_i vi h2
    split at he
    ·split at he
     ·rename_i h0
      obtain⟨c,h3,e⟩:=zE he;cases e;exact qM S (zZs C S hop ht h1 h2 h0 h3)
     ·cases he
    ·cases he
   ·cases he
  ·cases he
 case h_23=>cases he
def TurnE (w0:World) (fa:List Nat) (sh u:Nat->Prop) (h:Hs) (s':St) (tm:Array Value) (id e:Nat) (v:V) (x:Value) (w':World):Prop :=
 ∃sh' u' h' fp',Sim w0 fa sh' u' h' fp' s' tm w'/\RelS h' sh' w' v x/\(∀o∈v.mention,u' o)/\(∀o,u' o->u o\/id<=o/\o<e)/\(∀b,sh b->sh' b)/\(∀b,sh' b->sh b\/(b<w0.heap.size->b∈fa))/\h.Le u h'/\∀o,u o->u' o
theorem TurnE.mono {s':St} {tm:Array Value} {id e e':Nat} {v:V} {x:Value} {w':World} (T:TurnE w0 fa sh u h s' tm id e v x w') (he:e<=e'):TurnE w0 fa sh u h s' tm id e' v x w':=by
 obtain⟨sh',u',h',fp',a1,a2,a3,a4,a5,a6,a7,a8⟩:=T;exact⟨sh',u',h',fp',a1,a2,a3,fun o ho=>(a4 o ho).imp_right (fun k=>⟨k.1,Nat.lt_of_lt_of_le k.2 he⟩),a5,a6,a7,a8⟩
theorem Turn.toE {s':St} {tm:Array Value} {id e:Nat} {v:V} {x:Value} {w':World} (T:Turn w0 fa sh u h s' tm id v x w') (he:id+32<=e):TurnE w0 fa sh u h s' tm id e v x w':=by
 obtain⟨sh',u',h',fp',a1,a2,a3,a4,a5,a6,a7,a8⟩:=T;exact⟨sh',u',h',fp',a1,a2,a3,fun o ho=>(a4 o ho).imp_right (fun k=>⟨k.1,Nat.lt_of_lt_of_le k.2 he⟩),a5,a6,a7,a8⟩
def zK6 (P:Program) (call:Call):Prop :=
 ∀f vs s id v s',call.i f vs s id=some (v,s')->(∃fn,P.funcs[f]? = some fn/\fn.body.isSome=true/\(fn.name=="runtime.NumGoroutine")=false) /\
  ∀w0 fa sh u h fp tm w reals,Sim w0 fa sh u h fp s tm w->(∀q,u q->q<id)->ValsR h sh u w vs reals->Calls P f reals.toArray w (fun e w'=>∃x,e = .returned x/\TurnE w0 fa sh u h s' tm id s'.nxt v x w')
theorem zTx {call:Call} {cfg:Cfg} {id base:Nat} {s:St} {ty:TypeId} {o:Op} {r:V×St} (he:opE call cfg id base s ty o=some r) :
  (∃c fo f cs vs,o = .call c/\c.callee = .value fo/\opV s.env fo=some (.clo f cs)/\V.capsOk cs=true/\kW s.env c.args.toList=some vs/\cfg.inB f=true/\call.i f (vs++cs) s id=some r)\/opE call.noI cfg id base s ty o=some r:=by
 by_cases hc:∃c,o = .call c
 ·obtain⟨c,rfl⟩:=hc
  simp only[opE] at he ⊢;cases h1:kW s.env c.args.toList with
  | none=>rw[h1] at he;cases he
  | some vs =>
   rw[h1] at he;simp only at he ⊢;cases h2:c.callee with
   | builtin b=>rw[h2] at he;exact .inr he
   | invoke r nm=>rw[h2] at he;cases he
   | value fo =>
    rw[h2] at he;simp only at he ⊢;cases h3:opV s.env fo with
    | none=>rw[h3] at he;cases he
    | some v =>
     rw[h3] at he;simp only at he ⊢;cases v with
     | clo f cs =>
      simp only at he ⊢;split at he
      ·rename_i hk
       split at he
       ·rename_i hb
        exact .inl ⟨c,fo,f,cs,vs,rfl,h2,h3,hk,h1,hb,he⟩
       ·rename_i hb
        right
        rw[if_pos hk,if_neg hb];exact he
      ·cases he
     | _=>cases he
 ·right
  cases o with
  | call c=>exact absurd ⟨c,rfl⟩ hc
  | makeFunc fn a b=>cases fn<;>exact he
  | slice t x l h m=>cases m<;>exact he
  | _=>exact he
theorem zMk {cfg:Cfg} {call:Call} (C:CfgOK P cfg) (K:jP P call) (I:zK6 P call) (S:Sim w0 fa sh u h fp s a.tmps w) {o:Oper} {id base:Nat} {v:V} {s':St} (he:opE call cfg id base s o.type o.op=some (v,s'))
  (hid:∀q,u q->q<id):Does P o a w (TurnE w0 fa sh u h s' a.tmps id (max id s'.nxt+32) v):=by
 rcases zTx he with⟨c,fo,f,cs,vs,ho,hc,hf,hk,hv,_,hi⟩|he
 ·obtain⟨rf,mf,_⟩:=zY S hf
  simp only[RelS,RelS0,Rel,List.cons.injEq,and_true,true_and] at rf;obtain⟨caps,ef,rc⟩:=rf;obtain⟨hl,hvr⟩:=xP S hv;have hV:ValsR h sh u w (vs++cs) (c.args.toList.map a.eval++caps.toList):=(zO2 hl hvr).append (zHn rc (by simpa only[V.mention] using mf) hk);obtain⟨⟨fn,hfn,hbody,hname⟩,hcall⟩:=I f (vs++cs) s id v s' hi;have hrun:=zJz (w:=w) ho hc ef hfn hbody hname;refine zEo hrun ?_
  have eqargs:c.args.map a.eval++caps=(c.args.toList.map a.eval++caps.toList).toArray:=by
   apply Array.toList_inj.1;simp
  rw[eqargs];refine(hcall w0 fa sh u h fp a.tmps w _ S hid hV).mono ?_;rintro e w' ⟨x,rfl,T⟩;exact⟨x,rfl,T.mono (by omega)⟩
 ·have K':jP P call.noI:=fun f args v outs h=>K f args v outs h
  exact(zQ4 C K' (fun _ _ _ _=>rfl) S he (fun q h1 _ hu=>by have:=hid q hu;omega)).mono fun x w' T=>T.toE (by omega)
end
end Go.Proofs.YtbcgenkegnmkhaaGreat.Ev
namespace Go.Proofs.YtbcgenkegnmkhaaGreat.Ev
open Go
set_option linter.unusedSectionVars false
set_option linter.unusedSimpArgs false
structure Fix where
 w0:World
 fa:List Nat
 sh0:Nat->Prop
 n:Nat
 np:Nat
 pin:Nat->Prop
 hd0:Nat->Option (Nat×Nat×Nat×Nat)
 u0:Nat->Prop
 h0:Hs
 b0:Nat
structure Held (F:Fix) (sh u:Nat->Prop) (h:Hs) (a:Act):Prop where
 s0:∀b,F.sh0 b->sh b
 s1:∀b,sh b->F.sh0 b\/(b<F.w0.heap.size->b∈F.fa)
 n:F.n<=a.tmps.size
 d:a.defers=[]
 pin:∀o,F.pin o->o<F.np/\u o/\h.hd o=F.hd0 o
 le:F.h0.Le F.u0 h
 uu:∀o,F.u0 o->u o
 un:∀o,u o->F.u0 o\/F.b0<=o
def Inv (F:Fix) (s:St) (a:Act) (w:World):Prop :=
 ∃sh u h fp,Sim F.w0 F.fa sh u h fp s a.tmps w/\(∀q,u q->q<s.nxt)/\Held F sh u h a/\F.b0<=s.nxt
theorem Held.put {F:Fix} {sh u:Nat->Prop} {h:Hs} {a a':Act} (H:Held F sh u h a) {sh' u':Nat->Prop} {h':Hs} {id:Nat} (hun:∀o,u' o->u o\/id<=o) (hb:F.b0<=id) (h1:∀b,sh b->sh' b) (h2:∀b,sh' b->sh b\/(b<F.w0.heap.size->b∈F.fa)) (hl:h.Le u h') (hu:∀o,u o->u' o)
  (hs:a'.tmps.size=a.tmps.size) (hd:a'.defers=a.defers):Held F sh' u' h' a':=by
 refine⟨fun b hb=>h1 b (H.s0 b hb),fun b hb=>?_,by rw[hs];exact H.n,by rw[hd];exact H.d,fun o ho=>?_,H.le.trans hl H.uu,fun o ho=>hu o (H.uu o ho),fun o ho=>?_⟩
 ·rcases h2 b hb with hb|hb
  ·exact H.s1 b hb
  ·exact .inr hb
 ·obtain⟨k1,k2,k3⟩:=H.pin o ho
  exact⟨k1,hu o k2,(hl.hd o k2).trans k3⟩
 ·rcases hun o ho with ho|ho
  ·exact H.un o ho
  ·exact .inr (by omega)
def zHa (n:Nat) (o:Oper):Bool:=o.dst.elim true fun d=>decide (d<n)
section
variable {P : Program} {w0 : World} {fa : List Nat} {n : Nat} {s s' : St} {a : Act} {w : World}
theorem zC8 {d:Option Tmp} {x:Value}:(a.put d x).tmps.size=a.tmps.size:=by
 cases d<;>simp[Act.put]
theorem vL {d:Option Tmp} {x:Value}:(a.put d x).defers=a.defers:=by
 cases d<;>simp[Act.put]
theorem zEp {u:Nat->Prop} {h:Hs} {sh:Nat->Prop} {fp:Nat->List Nat} {d:Option Tmp} {v:V} {x:Value} (S:Sim w0 fa sh u h fp s a.tmps w) (hd:∀t,d=some t->t<a.tmps.size) (hm:∀o∈v.mention,u o) (hr:RelS h sh w v x) :
  Sim w0 fa sh u h fp (s.put d v) (a.put d x).tmps w:=by
 cases d with
 | none=>exact S
 | some t=>exact S.put (hd t rfl) hm hr
theorem vZ {o:Oper} (hd:zHa n o=true) (hn:n<=a.tmps.size):∀t,o.dst=some t->t<a.tmps.size:=by
 intro t ht;rw[zHa,ht] at hd;simp only[Option.elim_some,decide_eq_true_eq] at hd;exact Nat.lt_of_lt_of_le hd hn
theorem zD3 {u:Nat->Prop} {h:Hs} {sh:Nat->Prop} {fp:Nat->List Nat} {ops:Array Oper} (S:Sim w0 fa sh u h fp s a.tmps w) {o:Oper} {b:Bool} (hg:xA ops.toList s.env o.guard=some b)
  (hd:∀x∈ops.toList,zHa n x=true) (hn:n<=a.tmps.size):Region.wanted o (yielded ops a.tmps)=b:=by
 unfold Region.wanted;unfold xA at hg;split at hg
 ·rename_i e
  rw[e];simp only[Option.some.injEq] at hg;exact hg
 ·rename_i j want e
  rw[e];simp only;split at hg
  ·cases hg
  ·rename_i v hv
   split at hg
   ·rename_i c
    simp only[Option.some.injEq] at hg;subst hg;cases hj:ops.toList[j]? with
    | none=>rw[hj] at hv;cases hv
    | some q =>
     rw[hj] at hv;cases hq:q.dst with
     | none=>simp[hq] at hv
     | some t =>
      simp only[Option.bind_some,hq] at hv;have hj':ops[j]? = some q:=by rw[<-hj];simp
      have ht:=vZ (hd q (List.mem_of_getElem? hj)) hn t hq;have hr:=(S.env t _ hv).2;rw[relS_bool] at hr
      have:yielded ops a.tmps j=some c:=by
       unfold yielded;rw[hj'];simp only[Option.bind_some,hq];rw[Array.getElem?_eq_getElem ht];rw[Array.getD_eq_getD_getElem?,Array.getElem?_eq_getElem ht] at hr;simp only[Option.getD_some] at hr;rw[hr]
      rw[this];cases c<;>cases want<;>rfl
   ·simp only[Option.some.injEq] at hg
    subst hg;cases hj:ops.toList[j]? with
    | none=>rw[hj] at hv;cases hv
    | some q =>
     rw[hj] at hv;cases hq:q.dst with
     | none=>simp[hq] at hv
     | some t =>
      simp only[Option.bind_some,hq] at hv;have hj':ops[j]? = some q:=by rw[<-hj];simp
      have ht:=vZ (hd q (List.mem_of_getElem? hj)) hn t hq;have hr:=(S.env t _ hv).2;simp only[RelS] at hr
      have:yielded ops a.tmps j=none:=by
       unfold yielded;rw[hj'];simp only[Option.bind_some,hq];rw[Array.getElem?_eq_getElem ht];rw[Array.getD_eq_getD_getElem?,Array.getElem?_eq_getElem ht] at hr;simp only[Option.getD_some] at hr;rw[hr]
       rfl
      rw[this]
      rfl
   ·cases hg
theorem zPq {d:Bool} {n:Nat}:(s.on d n).env=s.env:=by cases d<;>rfl
theorem zRc {d:Bool} {n:Nat}:(s.on d n).obs=s.obs:=by cases d<;>rfl
theorem zHo {cfg:Cfg} {call:Call} (C:CfgOK P cfg) (K:jP P call) (I:zK6 P call) {F:Fix} {ops:Array Oper} (hd:∀x∈ops.toList,zHa F.n x=true) {Q:Exit->Act->World->Prop} {base:Nat}:∀(rest pre:List Oper) {s t:St} {a:Act} {w:World} {tr:List (List (Nat×Acc))} {sh u:Nat->Prop} {h:Hs} {fp:Nat->List Nat},
  ops.toList=pre++rest->Sim F.w0 F.fa sh u h fp s a.tmps w->(∀q,u q->q<s.nxt)->Held F sh u h a->F.b0<=s.nxt ->
  zEg call cfg false ops.toList base pre.length rest s tr=some (t,[]) ->
  (∀sh u h fp a' w',Sim F.w0 F.fa sh u h fp t a'.tmps w'->(∀q,u q->q<t.nxt)->Held F sh u h a'->F.b0<=t.nxt->Q .normal a' w') ->
  wpOps P ops Q (List.range' pre.length rest.length) a w
 | [],pre,s,t,a,w,tr,sh,u,h,fp,e,S,hu,H,hb,he,hQ=>by
  simp only[zEg,Option.some.injEq,Prod.mk.injEq] at he;obtain⟨rfl,_⟩:=he;exact hQ sh u h fp a w S hu H hb
 | o::rest,pre,s,t,a,w,tr,sh,u,h,fp,e,S,hu,H,hb,he,hQ=>by
  have hget:ops[pre.length]? = some o:=by
   rw[<-Array.getElem?_toList,e];simp
  have hmem:o∈ops.toList:=by rw[e];simp
  have e':ops.toList=(pre++[o])++rest:=by rw[e];simp
  have hlen:(pre++[o]).length=pre.length+1:=by simp
  simp only[List.length_cons,List.range'_succ,wpOps,hget];simp only[zEg] at he;cases hg:xA ops.toList s.env o.guard with
  | none=>rw[hg] at he;cases he
  | some b =>
   have hw:=zD3 S hg hd H.n;rw[hg] at he;cases b with
   | true =>
    simp only[Call.pick,Bool.false_eq_true,if_false] at he;cases ho:opE call cfg s.nxt base s o.type o.op with
    | none=>rw[ho] at he;cases he
    | some r =>
     rw[ho] at he;simp only[Bool.false_eq_true,if_false] at he;rw[hw,if_pos rfl]
     left
     have hD:=zMk (o:=o) C K I S (v:=r.1) (s':=r.2) ho hu;refine hD _ _ (fun x w' hT=>?_);obtain⟨sh',u',h',fp',S',rx,hm,hu',hs1,hs2,hle,huu⟩:=hT;have hnx:((r.2.put o.dst r.1).on false (max s.nxt r.2.nxt)).nxt=max s.nxt r.2.nxt+32:=rfl
     have hr:=zHo C K I hd rest (pre++[o]) (Q:=Q) (s:=(r.2.put o.dst r.1).on false (max s.nxt r.2.nxt)) (a:=a.put o.dst x) e' ((zEp S' (vZ (hd o hmem) H.n) hm rx).same (fun t=>by rw[zPq]) (fun t=>by rw[zRc])) (fun q hq=>by
       rw[hnx];rcases hu' q hq with hq|hq
       ·have:=hu q hq;omega
       ·exact hq.2) (H.put (id:=s.nxt) (fun o ho=>(hu' o ho).imp_right (·.1)) hb hs1 hs2 hle huu zC8 vL) (by rw[hnx];omega) (by rw[hlen];exact he) hQ
     rw[hlen] at hr;exact hr
   | false =>
    simp only[Bool.false_eq_true,if_false] at he;rw[hw];simp only[Bool.false_eq_true,if_false];have hnx:((s.put o.dst (.iop .und)).on false s.nxt).nxt=s.nxt+32:=rfl
    have hr:=zHo C K I hd rest (pre++[o]) (Q:=Q) (s:=(s.put o.dst (.iop .und)).on false s.nxt) (a:=a.put o.dst undef) e' ((zEp (v:=.iop .und) (x:=undef) S (vZ (hd o hmem) H.n) (by intro q hq;cases hq) rfl).same (fun t=>by rw[zPq]) (fun t=>by rw[zRc])) (fun q hq=>by rw[hnx];have:=hu q hq;omega)
     (H.put (id:=s.nxt) (fun o ho=>.inl ho) hb (fun _ h=>h) (fun _ h=>.inl h) (Hs.Le.refl u h) (fun _ h=>h) zC8 vL) (by rw[hnx];omega) (by rw[hlen];exact he) hQ
    rw[hlen] at hr;exact hr
theorem zOg {call:Call} {cfg:Cfg} {all:List Oper} {base:Nat}:∀{rest:List Oper} {i:Nat} {s:St} {r:St×List (List (Nat×Acc))},zEg call cfg false all base i rest s []=some r->r.2=[]
 | [],i,s,r,he=>by simp only[zEg,Option.some.injEq] at he;rw[<-he]
 | o::rest,i,s,r,he=>by
  simp only[zEg,Bool.false_eq_true,if_false] at he;split at he
  ·cases he
  ·split at he
   ·cases he
   ·exact zOg he
  ·exact zOg he
theorem zLh {cfg:Cfg} {call:Call} (C:CfgOK P cfg) (K:jP P call) (J:zK6 P call) {F:Fix} {id:Nat} {ops:Array Oper} (hd:∀x∈ops.toList,zHa F.n x=true) (I:Inv F s a w) (he:xN call cfg ops.toList false s=some s') :
  (Code.region id ops false).wp P (fun e a' w'=>e = .normal/\Inv F s' a' w') a w:=by
 obtain⟨sh,u,h,fp,S,hu,H,hb⟩:=I;unfold xN at he;cases ho:zEg call cfg false ops.toList s.nxt 0 ops.toList s [] with
 | none=>rw[ho] at he;cases he
 | some r =>
  rw[ho] at he;simp only[true_or,if_true,Option.some.injEq,Bool.false_eq_true,if_false] at he;subst he;refine wp_region ?_
  have hr:=zHo C K J hd (Q:=fun e a' w'=>e = .normal/\Inv F r.1 a' w') ops.toList [] (t:=r.1) (by simp) S hu H hb (by
   have:=zOg ho
   rw[<-this];exact ho) (fun sh u h fp a' w' S' hu' H' hb'=>⟨rfl,sh,u,h,fp,S',hu',H',hb'⟩)
  simpa [List.range_eq_range'] using hr
end
theorem zYb {α β:Type} {f:α->β} {l:List (Nat×α)} {t:Nat}:zO (l.map fun e=>(e.1,f e.2)) t=(zO l t).map f:=by
 induction l with
 | nil=>rfl
 | cons e r ih =>
  obtain⟨k,v⟩:=e;simp only[List.map_cons,zO];split
  ·rfl
  ·exact ih
theorem zHg {env:List (Nat×V)} {t:Nat} {v:V}:∀{l:List Nat},zO (zA4 l env) t=some v->zO env t=some v
 | [],e=>by cases e
 | k::r,e=>by
  simp only[zA4] at e;cases hk:zO env k with
  | none=>rw[hk] at e;exact zHg e
  | some x =>
   rw[hk] at e;simp only[zO] at e;split at e
   ·rename_i hkt;subst hkt;rw[hk];exact e
   ·exact zHg e
theorem zLc {obs:List (Nat×Ob)}:∀{n o:Nat},zO (zBf obs n) o=if o<n then zO obs o else none
 | 0,o=>by simp[zBf,zO]
 | n+1,o=>by
  simp only[zBf,kV,zLc (n:=n)]
  by_cases h1:o<n
  ·rw[if_pos h1,if_pos (by omega)]
   cases hx:zO obs o with
   | some x=>rfl
   | none =>
    simp only[Option.none_or];cases hn:zO obs n with
    | none=>rfl
    | some y=>simp only[Option.elim_some,zO];rw[if_neg (by omega)]
  ·rw[if_neg h1]
   simp only[Option.none_or]
   by_cases h2:o=n
   ·subst h2
    rw[if_pos (by omega)];cases hn:zO obs o with
    | none=>rfl
    | some y=>simp[zO]
   ·rw[if_neg (by omega)]
    cases hn:zO obs n with
    | none=>rfl
    | some y=>simp only[Option.elim_some,zO];rw[if_neg (fun h=>h2 h.symm)]
theorem zId:∀{l:List Nat} {i o p:Nat},zM7 l i o=some p->i<=p/\p<i+l.length/\l[p - i]? = some o
 | [],i,o,p,e=>by cases e
 | x::r,i,o,p,e=>by
  simp only[zM7] at e;split at e
  ·rename_i h;subst h;cases e;simp
  ·obtain⟨h1,h2,h3⟩:=zId e
   refine⟨by omega,by simp only[List.length_cons];omega,?_⟩;rw[show p - i=(p - (i+1))+1 from by omega,List.getElem?_cons_succ];exact h3
def zXu (np:Nat) (l:List Nat) (q:Nat):Nat:=if q<np then q else(l[q - np]?).getD 0
theorem zUa {np:Nat} {l:List Nat} {o q:Nat} (h:zEu np l o=some q):zXu np l q=o/\q<np+l.length:=by
 unfold zEu at h;unfold zXu;split at h
 ·rename_i hlt;cases h;rw[if_pos hlt];exact⟨rfl,by omega⟩
 ·obtain⟨h1,h2,h3⟩:=zId h
  rw[if_neg (by omega),h3];exact⟨rfl,h2⟩
section
variable {ρ : Nat->Option Nat} {vr : Nat->Nat}
mutual
theorem qBb:∀{v:V},v.mention=[]->v.ren ρ vr=v
 | .agg xs,h=>by simp only[V.ren];rw[zG7 (by simpa only[V.mention] using h)]
 | .tup xs,h=>by simp only[V.ren];rw[zG7 (by simpa only[V.mention] using h)]
 | .clo f cs,h=>by simp only[V.ren];rw[zG7 (by simpa only[V.mention] using h)]
 | .ref ..,h=>by simp[V.mention] at h
 | .plc ..,h=>by simp[V.mention] at h
 | .ptr ..,h=>by simp[V.mention] at h
 | .int ..,_=>rfl
 | .bool _,_=>rfl
 | .str _,_=>rfl
 | .lst ..,_=>rfl
 | .emp _,_=>rfl
 | .vptr _,_=>rfl
 | .und,_=>rfl
 | .iol ..,_=>rfl
 | .iop _,_=>rfl
theorem zG7:∀{xs:List V},V.mentionL xs=[]->V.renL ρ vr xs=xs
 | [],_=>rfl
 | x::r,h=>by
  obtain⟨h1,h2⟩:=vO (show x.mention++V.mentionL r=[] from h);simp only[V.renL];rw[qBb h1,zG7 h2]
end
mutual
theorem zGv:∀{v:V} {q:Nat},q∈(v.ren ρ vr).mention->∃o∈v.mention,ρ o=some q
 | .agg xs,q,h=>by simp only[V.ren,V.mention] at h ⊢;exact zA3 h
 | .tup xs,q,h=>by simp only[V.ren,V.mention] at h ⊢;exact zA3 h
 | .clo f cs,q,h=>by simp only[V.ren,V.mention] at h ⊢;exact zA3 h
 | .ref o lo n,q,h=>by
  simp only[V.ren] at h;split at h
  ·rename_i o' e;simp only[V.mention,List.mem_singleton] at h;subst h;exact⟨o,by simp[V.mention],e⟩
  ·cases h
 | .plc o i fs ver n,q,h=>by
  simp only[V.ren] at h;split at h
  ·rename_i o' e
   split at h
   ·simp only[V.mention,List.mem_singleton] at h;subst h;exact⟨o,by simp[V.mention],e⟩
   ·cases h
  ·cases h
 | .ptr o i fs,q,h=>by
  simp only[V.ren] at h;split at h
  ·rename_i o' e;simp only[V.mention,List.mem_singleton] at h;subst h;exact⟨o,by simp[V.mention],e⟩
  ·cases h
 | .int ..,q,h=>by cases h
 | .bool _,q,h=>by cases h
 | .str _,q,h=>by cases h
 | .lst ..,q,h=>by cases h
 | .emp _,q,h=>by cases h
 | .vptr _,q,h=>by cases h
 | .und,q,h=>by cases h
 | .iol ..,q,h=>by cases h
 | .iop _,q,h=>by cases h
theorem zA3:∀{xs:List V} {q:Nat},q∈V.mentionL (V.renL ρ vr xs)->∃o∈V.mentionL xs,ρ o=some q
 | [],q,h=>by cases h
 | x::r,q,h=>by
  simp only[V.renL,V.mentionL,List.mem_append] at h ⊢;rcases h with h|h
  ·obtain⟨o,h1,h2⟩:=zGv h;exact⟨o,.inl h1,h2⟩
  ·obtain⟨o,h1,h2⟩:=zA3 h;exact⟨o,.inr h1,h2⟩
end
mutual
theorem zN8:∀(v:V),(v.ren ρ vr).cells=v.cells
 | .agg xs=>by simp only[V.ren,V.cells];exact zHw xs
 | .tup xs=>rfl
 | .clo f cs=>rfl
 | .ref o lo n=>by simp only[V.ren];split<;>rfl
 | .plc o i fs ver n=>by
  simp only[V.ren];split
  ·split<;>rfl
  ·rfl
 | .ptr o i fs=>by simp only[V.ren];split<;>rfl
 | .int ..=>rfl
 | .bool _=>rfl
 | .str _=>rfl
 | .lst ..=>rfl
 | .emp _=>rfl
 | .vptr _=>rfl
 | .und=>rfl
 | .iol ..=>rfl
 | .iop _=>rfl
theorem zHw:∀(xs:List V),V.cellsL (V.renL ρ vr xs)=V.cellsL xs
 | []=>rfl
 | x::r=>by simp only[V.renL,V.cellsL];rw[zN8 x,zHw r]
end
theorem zAk:∀(xs:List V),V.renL ρ vr xs=xs.map (V.ren ρ vr)
 | []=>rfl
 | x::r=>by simp only[V.renL,List.map_cons];rw[zAk r]
theorem zQt:∀(xs:List V) (i:Nat),zC9 (V.renL ρ vr xs) i=zC9 xs i
 | [],i=>rfl
 | x::r,0=>rfl
 | x::r,i+1=>by simp only[V.renL,zC9];rw[zN8 x,zQt r i]
theorem zX0 {v:V} {ys:List V} (h:v.ren ρ vr = .agg ys):∃xs,v = .agg xs/\ys=V.renL ρ vr xs:=by
 cases v with
 | agg xs=>simp only[V.ren,V.agg.injEq] at h;exact⟨xs,rfl,h.symm⟩
 | ref o lo n=>simp only[V.ren] at h;split at h<;>cases h
 | ptr o i fs=>simp only[V.ren] at h;split at h<;>cases h
 | plc o i fs ver n =>
  simp only[V.ren] at h;split at h
  ·split at h<;>cases h
  ·cases h
 | _=>simp[V.ren] at h
theorem zKe:∀{fs:List Nat} {x y:V},kS (x.ren ρ vr) fs=some y->∃y0,kS x fs=some y0/\y=y0.ren ρ vr/\zB1 (x.ren ρ vr) fs=zB1 x fs
 | [],x,y,h=>by simp only[kS,Option.some.injEq] at h;exact⟨x,rfl,h.symm,rfl⟩
 | i::p,x,y,h=>by
  cases hx:x.ren ρ vr with
  | agg ys =>
   obtain⟨xs,rfl,rfl⟩:=zX0 hx;rw[hx] at h;simp only[kS] at h ⊢;cases hi:xs[i]? with
   | none=>rw[zAk,List.getElem?_map,hi] at h;cases h
   | some z =>
    have hz:(V.renL ρ vr xs)[i]? = some (z.ren ρ vr):=by rw[zAk,List.getElem?_map,hi];rfl
    rw[hz] at h;simp only at h;obtain⟨y0,h1,h2,h3⟩:=zKe h;refine⟨y0,h1,h2,?_⟩;simp only[zB1,hz,hi,zQt,h3]
  | _=>rw[hx] at h;simp[kS] at h
theorem qE9 {v:V} {own:Bool} {sz:Nat} {ys:List V} (h:v.ren ρ vr = .lst own sz ys):v = .lst own sz ys:=by
 cases v with
 | lst o z xs=>simpa only[V.ren] using h
 | ref o lo n=>simp only[V.ren] at h;split at h<;>cases h
 | ptr o i fs=>simp only[V.ren] at h;split at h<;>cases h
 | plc o i fs ver n =>
  simp only[V.ren] at h;split at h
  ·split at h<;>cases h
  ·cases h
 | _=>simp[V.ren] at h
end
section
variable {u : Nat->Prop} {h H : Hs} {sh : Nat->Prop} {w : World} {ρ : Nat->Option Nat} {vr : Nat->Nat}
structure Renames (ρ:Nat->Option Nat) (vr:Nat->Nat) (h H:Hs):Prop where
 hd:∀o q,ρ o=some q->H.hd q=h.hd o
 ofs:∀o q,ρ o=some q->H.ofs q=h.ofs o
 pa:∀o q,ρ o=some q->∀i fs,H.pa q i fs 0=h.pa o i fs (vr o)
 pc:∀o q,ρ o=some q->∀i fs,H.pc q i fs 0=h.pc o i fs (vr o)
variable (R : Renames ρ vr h H)
include R
mutual
theorem Rel.ren:∀{v:V} {cs:List Value} {f:List Nat},Rel h sh w v cs f->Rel H sh w (v.ren ρ vr) cs f
 | .agg xs,cs,f,r=>by
  simp only[V.ren,Rel] at r ⊢;exact RelA.ren r
 | .clo k cs,ds,f,r=>by
  simp only[V.ren,Rel] at r ⊢;obtain⟨e,vs,e2,r⟩:=r;exact⟨e,vs,e2,RelC.ren r⟩
 | .ref o lo n,cs,f,r=>by
  have r0:=r;simp only[V.ren];split
  ·rename_i q e
   simp only[Rel] at r ⊢;rw[R.hd o q e];exact r
  ·obtain⟨c,rfl⟩:∃c,cs=[c]:=List.length_eq_one_iff.1 (Rel.len r0)
   have:=Rel.ones r0 rfl
   simp only[Rel] at r ⊢;exact⟨r.1,c,rfl,this⟩
 | .ptr o i fs,cs,f,r=>by
  have r0:=r;simp only[V.ren];split
  ·rename_i q e
   simp only[Rel] at r ⊢;rw[R.hd o q e,R.ofs o q e];exact r
  ·obtain⟨c,rfl⟩:∃c,cs=[c]:=List.length_eq_one_iff.1 (Rel.len r0)
   have:=Rel.ones r0 rfl
   simp only[Rel] at r ⊢;exact⟨r.1,c,rfl,this⟩
 | .plc o i fs ver n,cs,f,r=>by
  have r0:=r
  have und:Rel H sh w .und cs f:=by
   obtain⟨c,rfl⟩:∃c,cs=[c]:=List.length_eq_one_iff.1 (Rel.len r0)
   have:=Rel.ones r0 rfl
   simp only[Rel] at r ⊢;exact⟨r.1,c,rfl,this⟩
  simp only[V.ren];split
  ·rename_i q e
   split
   ·rename_i hv
    subst hv;simp only[Rel] at r ⊢;rw[R.pa o q e,R.pc o q e];exact⟨r.1,Nat.zero_le _,r.2.2⟩
   ·exact und
  ·exact und
 | .lst own sz xs,cs,f,r=>by simp only[V.ren];exact r.any rfl
 | .int ..,cs,f,r=>by simp only[V.ren];exact r.any rfl
 | .bool _,cs,f,r=>by simp only[V.ren];exact r.any rfl
 | .str _,cs,f,r=>by simp only[V.ren];exact r.any rfl
 | .emp _,cs,f,r=>by simp only[V.ren];exact r.any rfl
 | .vptr _,cs,f,r=>by simp only[V.ren];exact r.any rfl
 | .und,cs,f,r=>by simp only[V.ren];exact r.any rfl
 | .tup _,cs,f,r=>by simp only[Rel] at r
 | .iol ..,cs,f,r=>by simp only[Rel] at r
 | .iop _,cs,f,r=>by simp only[Rel] at r
theorem RelA.ren:∀{xs:List V} {cs:List Value} {f:List Nat},RelA h sh w xs cs f->RelA H sh w (V.renL ρ vr xs) cs f
 | [],cs,f,r=>by simpa only[V.renL,RelA] using r
 | x::q,cs,f,r=>by
  simp only[V.renL,RelA] at r ⊢;obtain⟨c1,c2,f1,f2,e,ef,r1,r2⟩:=r;exact⟨c1,c2,f1,f2,e,ef,Rel.ren r1,RelA.ren r2⟩
theorem RelC.ren:∀{xs:List V} {vs:List Value},RelC h sh w xs vs->RelC H sh w (V.renL ρ vr xs) vs
 | [],vs,r=>by simpa only[V.renL,RelC] using r
 | x::q,vs,r=>by
  simp only[V.renL,RelC] at r ⊢;obtain⟨v,p,e,r1,r2⟩:=r;exact⟨v,p,e,Rel.ren r1,RelC.ren r2⟩
end
theorem RelX.ren {z:Nat}:∀{xs:List V} {cs:List Value} {f:List Nat},RelX h sh w z xs cs f->RelX H sh w z (V.renL ρ vr xs) cs f
 | [],cs,f,r=>by simpa only[V.renL,RelX] using r
 | x::q,cs,f,r=>by
  simp only[V.renL,RelX] at r ⊢;obtain⟨c1,c2,f1,f2,e,ef,el,r1,r2⟩:=r;exact⟨c1,c2,f1,f2,e,ef,el,Rel.ren R r1,RelX.ren r2⟩
theorem RelS0.ren {v:V} {x:Value} (r:RelS0 h sh w v x):RelS0 H sh w (v.ren ρ vr) x:=by
 by_cases ha:∃xs,v = .agg xs
 ·obtain⟨xs,rfl⟩:=ha
  obtain⟨cs,e,r⟩:=r;exact⟨cs,e,RelA.ren R r⟩
 ·by_cases hu:v = .und
  ·subst hu;trivial
  ·have r':Rel h sh w v [x] []:=by
    cases v<;>first|exact r|exact absurd rfl hu|exact absurd ⟨_,rfl⟩ ha
   have r2:=Rel.ren R r'
   have hna:∀ys,v.ren ρ vr≠.agg ys:=fun ys e=>by
    obtain⟨xs,e,_⟩:=zX0 e;exact ha ⟨xs,e⟩
   cases hv:v.ren ρ vr<;>rw[hv] at r2<;>first|exact r2|trivial|exact absurd hv (hna _)
theorem RelSL.ren:∀{xs:List V} {vs:List Value},RelSL h sh w xs vs->RelSL H sh w (V.renL ρ vr xs) vs
 | [],vs,r=>r
 | x::q,vs,r=>by
  simp only[V.renL,RelSL] at r ⊢;obtain⟨v,p,e,r1,r2⟩:=r;exact⟨v,p,e,RelS0.ren R r1,RelSL.ren r2⟩
theorem RelS.ren {v:V} {x:Value} (r:RelS h sh w v x):RelS H sh w (v.ren ρ vr) x:=by
 by_cases ha:∃xs,v = .tup xs
 ·obtain⟨xs,rfl⟩:=ha
  obtain⟨vs,e,r⟩:=r;exact⟨vs,e,RelSL.ren R r⟩
 by_cases hb:∃y,v = .iop y
 ·obtain⟨y,rfl⟩:=hb
  exact r
 ·have r':RelS0 h sh w v x:=by
   cases v<;>first|exact r|exact absurd ⟨_,rfl⟩ ha|exact absurd ⟨_,rfl⟩ hb
  have r2:=RelS0.ren R r'
  have hna:∀ys,v.ren ρ vr≠.tup ys:=fun ys e=>by
   cases v with
   | tup xs=>exact ha ⟨xs,rfl⟩
   | ref o lo n=>simp only[V.ren] at e;split at e<;>cases e
   | ptr o i fs=>simp only[V.ren] at e;split at e<;>cases e
   | plc o i fs ver n =>
    simp only[V.ren] at e;split at e
    ·split at e<;>cases e
    ·cases e
   | _=>simp[V.ren] at e
  cases hv:v.ren ρ vr<;>rw[hv] at r2<;>first|exact r2|exact absurd hv (hna _)|(simp only[RelS0,Rel] at r2;done)
end
theorem zCp {ρ:Nat->Option Nat} {vr:Nat->Nat} (hinj:∀o o' q,ρ o=some q->ρ o'=some q->o=o'):∀{obs:List (Nat×Ob)} {q:Nat} {ob':Ob},zO (zCc ρ vr obs) q=some ob' ->
  ∃o ob,ρ o=some q/\zO obs o=some ob/\ob'=⟨ob.bx,ob.fx,ob.sz,if ob.bx=true then V.renL ρ vr ob.xs else ob.xs,0⟩
 | [],q,ob',e=>by cases e
 | (k,x)::r,q,ob',e=>by
  simp only[zCc] at e;cases hk:ρ k with
  | none =>
   rw[hk] at e;obtain⟨o,ob,h1,h2,h3⟩:=zCp hinj e;refine⟨o,ob,h1,?_,h3⟩;simp only[zO];rw[if_neg (fun h=>by subst h;rw[hk] at h1;cases h1)];exact h2
  | some k' =>
   rw[hk] at e;simp only[zO] at e;split at e
   ·rename_i hq
    subst hq;cases e;exact⟨k,x,hk,by simp[zO],rfl⟩
   ·rename_i hq
    obtain⟨o,ob,h1,h2,h3⟩:=zCp hinj e;refine⟨o,ob,h1,?_,h3⟩;simp only[zO];rw[if_neg (fun h=>by subst h;rw[hk] at h1;cases h1;exact hq rfl)];exact h2
section
variable {u : Nat->Prop} {h : Hs} {sh : Nat->Prop} {w w0 : World} {fa : List Nat} {fp : Nat->List Nat} {s : St} {tm : Array Value}
theorem zS0 (S:Sim w0 fa sh u h fp s tm w) (np:Nat) (l:List Nat) :
  ∃u' h' fp',Sim w0 fa sh u' h' fp' (zH np (some l) s) tm w/\(∀q,u' q->q<(zH np (some l) s).nxt)/\∀o,o<np->u o->u' o/\h'.hd o=h.hd o:=by
 let env:=zA4 l s.env
 let ids:=zGx np env s.obs
 let ρ:=zEu np ids
 let vr:=zS3 s.obs
 let iv:=zXu np ids
 let H:Hs:={ hd:=fun q=>h.hd (iv q),ofs:=fun q=>h.ofs (iv q),vr:=fun _=>0,pa:=fun q i fs _=>h.pa (iv q) i fs (vr (iv q)),pc:=fun q i fs _=>h.pc (iv q) i fs (vr (iv q)) }
 have hiv:∀o q,ρ o=some q->iv q=o/\q<np+ids.length:=fun o q e=>zUa e
 have hinj:∀o o' q,ρ o=some q->ρ o'=some q->o=o':=fun o o' q e e'=>(hiv o q e).1.symm.trans (hiv o' q e').1
 have R:Renames ρ vr h H:=⟨fun o q e=>by simp only[H,(hiv o q e).1],fun o q e=>by simp only[H,(hiv o q e).1],fun o q e i fs=>by simp only[H,(hiv o q e).1],fun o q e i fs=>by simp only[H,(hiv o q e).1]⟩
 have hobs:∀q ob',zO (zH np (some l) s).obs q=some ob'->q<np+ids.length/\∃o ob,ρ o=some q/\iv q=o/\zO s.obs o=some ob/\ob'=⟨ob.bx,ob.fx,ob.sz,V.renL ρ vr ob.xs,0⟩:=by
  intro q ob' e;have e1:zO (zBf (zCc ρ vr s.obs) (np+ids.length)) q=some ob':=e;rw[zLc] at e1;split at e1
  ·rename_i hq
   obtain⟨o,ob,h1,h2,h3⟩:=zCp hinj e1;refine⟨hq,o,ob,h1,(hiv o q h1).1,h2,?_⟩;cases hb:ob.bx
   ·rw[h3,hb]
    simp only[Bool.false_eq_true,if_false];rw[zG7];apply List.eq_nil_iff_forall_not_mem.2;intro k hk;obtain⟨x,hx,hk⟩:=mem_mentionL.1 hk;rw[((S.obs o ob h2).2.men x hx).1 hb] at hk;cases hk
   ·rw[h3,hb];simp
  ·cases e1
 have hmen:∀{v:V},(∀o∈v.mention,u o)->∀q∈(v.ren ρ vr).mention,q<np+ids.length/\u (iv q):=by
  intro v hm q hq;obtain⟨o,h1,h2⟩:=zGv hq;exact⟨(hiv o q h2).2,by rw[(hiv o q h2).1];exact hm o h1⟩
 refine⟨fun q=>q<np+ids.length/\u (iv q),H,fun q=>fp (iv q),⟨S.size,S.old,?_,?_,?_,?_,?_⟩,fun q hq=>hq.1,fun o ho huo=>?_⟩
 rotate_left 5
 ·have hio:iv o=o:=by simp only[iv,zXu,if_pos ho]
  exact⟨⟨by omega,by rw[hio];exact huo⟩,by simp only[H,hio]⟩
 ·intro q ob' e
  obtain⟨hq,o,ob,h1,h2,h3,rfl⟩:=hobs q ob' e;obtain⟨huo,RO⟩:=S.obs o ob h3;refine⟨⟨hq,by rw[h2];exact huo⟩,⟨rfl,?_,?_,?_,?_,?_⟩⟩
  ·intro x hx
   simp only[zAk,List.mem_map] at hx;obtain⟨y,hy,rfl⟩:=hx;refine⟨fun hb=>?_,hmen (RO.men y hy).2⟩
   have:=(RO.men y hy).1 hb
   rw[qBb this];exact this
  ·have hr:=RO.row
   simp only[H,h2];split at hr
   ·rename_i e
    refine⟨by rw[hr.1];rfl,hr.2.1,hr.2.2⟩
   ·rename_i b off c z e
    obtain⟨k1,k2,k3,ds,fps,k4,k5,k6⟩:=hr;exact⟨k1,by rw[zAk,List.length_map];exact k2,k3,ds,fps,k4,k5,RelX.ren R k6⟩
  ·intro i x fs y hx hg
   simp only[zAk,List.getElem?_map,Option.map_eq_some_iff] at hx;obtain⟨x0,hx0,rfl⟩:=hx;obtain⟨y0,g1,g2,g3⟩:=zKe hg;simp only[H,h2];rw[RO.ofs i x0 fs y0 hx0 g1,g3]
  ·intro b off c z hd i fs sz xs hg
   have hd':h.hd o=some (b,off,c,z):=by rw[<-h2];exact hd
   have hg':ob.get i fs=some (.lst true sz xs):=by
    unfold Ob.get at hg ⊢;simp only[zAk,List.getElem?_map] at hg;cases hx0:ob.xs[i]? with
    | none=>rw[hx0] at hg;cases hg
    | some x0 =>
     rw[hx0] at hg;simp only[Option.map_some] at hg;obtain⟨y0,g1,g2,g3⟩:=zKe hg
     have:=qE9 g2.symm
     rw[this] at g1;exact g1
   have hc:=RO.pl b off c z hd' i fs sz xs hg';simp only[H,h2];have hvr:vr o=ob.ver:=by simp only[vr,zS3,h3,Option.elim_some]
   rw[hvr];exact hc
  ·intro hb hx b off c z hd
   exact RO.one hb hx b off c z (by rw[<-h2];exact hd)
 ·intro q ob' e
  obtain⟨hq,o,ob,h1,h2,h3,rfl⟩:=hobs q ob' e;simp only[h2];exact S.own o ob h3
 ·intro q q' ob1 ob2 e1 e2 hne b hb
  obtain⟨hq,o,ob,h1,h2,h3,rfl⟩:=hobs q ob1 e1;obtain⟨hq',o',ob',h1',h2',h3',rfl⟩:=hobs q' ob2 e2;simp only[h2,h2'] at hb ⊢;exact S.apart o o' ob ob' h3 h3' (fun e=>hne (by subst e;rw[h1] at h1';cases h1';rfl)) b hb
 ·intro b hb
  refine⟨(S.shr b hb).1,fun q ob' e=>?_⟩;obtain⟨hq,o,ob,h1,h2,h3,rfl⟩:=hobs q ob' e;simp only[h2];exact(S.shr b hb).2 o ob h3
 ·intro t v e
  have e1:zO (env.map fun e=>(e.1,e.2.ren ρ vr)) t=some v:=e;rw[zYb] at e1;cases hx:zO env t with
  | none=>rw[hx] at e1;cases e1
  | some v0 =>
   rw[hx] at e1;simp only[Option.map_some,Option.some.injEq] at e1;subst e1;obtain⟨m,r⟩:=S.env t v0 (zHg hx);exact⟨hmen m,RelS.ren R r⟩
def Fix.calm (F:Fix):Prop:=(∀o,¬F.u0 o)/\F.b0=0
theorem zPn {F:Fix} {a:Act} (hc:F.calm) (I:Inv F s a w) (k:Option (List Nat)):Inv F (zH F.np k s) a w:=by
 cases k with
 | none=>exact I
 | some l =>
  obtain⟨sh,u,h,fp,S,hu,H,hb⟩:=I;obtain⟨u',h',fp',S',hu',hp⟩:=zS0 S F.np l;refine⟨sh,u',h',fp',S',hu',⟨H.s0,H.s1,H.n,H.d,fun o ho=>?_,⟨fun o ho=>(hc.1 o ho).elim,fun o ho=>(hc.1 o ho).elim,fun o ho=>(hc.1 o ho).elim,fun o ho=>(hc.1 o ho).elim,fun o ho=>(hc.1 o ho).elim⟩,fun o ho=>(hc.1 o ho).elim,fun o _=>.inr (by rw[hc.2];omega)⟩,by rw[hc.2];omega⟩;obtain⟨k1,k2,k3⟩:=H.pin o ho;obtain⟨j1,j2⟩:=hp o k1 k2;exact⟨k1,j1,j2.trans k3⟩
end
end Go.Proofs.YtbcgenkegnmkhaaGreat.Ev
namespace Go.Proofs.YtbcgenkegnmkhaaGreat.Ev
open Go
set_option linter.unusedSectionVars false
set_option linter.unusedSimpArgs false
section
variable {u : Nat->Prop} {h : Hs} {sh : Nat->Prop} {w w0 : World} {fa : List Nat} {fp : Nat->List Nat} {s : St} {tm : Array Value}
theorem Sim.push (S:Sim w0 fa sh u h fp s tm w) {o i:Nat} {fs:List Nat} {ob ob':Ob} (ho:zO s.obs o=some ob) (hg:ob.get i fs=some .und) {c1:Value} {b off c z:Nat} (hd:h.hd o=some (b,off,c,z))
  (hc:w.cell? ⟨b,off+h.ofs o i fs,none⟩=some c1) {sz:Nat} {ys:List V} {f:List Nat} (r:Rel h sh w (.lst true sz ys) [c1] f) (hs:ob.set i fs (.lst true sz ys)=some ob') (hl:Loose w0 fa sh s.obs fp w f) :
  ∃h' fp',Sim w0 fa sh u h' fp' { s with obs:=xC s.obs o { ob' with ver:=ob.ver+1 } } tm w/\h.Le u h':=by
 obtain⟨b',off',c',z',d0,d1,d2,f0,f1,f2,hd',hz,hlc,hrow,hfp,hat,hlen,hl0,ry,_,hset⟩:=S.place ho hg;rw[hd] at hd';simp only[Option.some.injEq,Prod.mk.injEq] at hd';obtain⟨rfl,rfl,rfl,rfl⟩:=hd';have hl1:=Rel.len ry;simp only[V.cells] at hl1
 obtain⟨c2,rfl⟩:∃c2,d1=[c2]:=by
  cases d1 with
  | nil=>simp at hl1
  | cons c q=>cases q with
   | nil=>exact⟨c,rfl⟩
   | cons e q=>simp at hl1
 have hc2:=(At.append.1 (At.append.1 hat).2).1 0 c2 rfl;rw[Nat.add_zero,hl0,hc] at hc2;simp only[Option.some.injEq] at hc2;subst hc2;obtain⟨x,x',hx,hgx,hsx,hal,hob'⟩:=zLn hg (t:=.lst true sz ys) rfl hs;have hX:=hset h sh w (Goes.refl u h sh w) (fun _ _=>rfl) (.lst true sz ys) [c1] f ob' r rfl hs;have hall:V.alikeL ob.xs ob'.xs=true:=by rw[hob'];exact xL hx hal
 obtain⟨hnd,hown⟩:=S.own o _ ho;rw[hfp] at hnd hown;have hnd1:=List.nodup_cons.1 hnd
 have hmem:∀b'∈f0++f2,b'∈f0++(f1++f2):=by
  intro b' hb';rcases List.mem_append.1 hb' with h|h<;>simp[h]
 have hlenx:ob'.xs.length=ob.xs.length:=by rw[hob'];simp
 have hsz:ob'.sz=ob.sz:=by rw[hob']
 have hfo:∀b'∈f,b' ∉ b::(f0++(f1++f2)):=fun b' hb'=>by
  have:=(hl.ok b' hb').2.2.2 o ob ho
  rwa [hfp] at this
 have hf02:(f0++f2).Nodup:=List.Sublist.nodup (List.Sublist.append (List.Sublist.refl _) (List.sublist_append_right ..)) hnd1.2
 have hndf:(f0++(f++f2)).Nodup:=by
  have h02:=List.nodup_append.1 hf02;refine List.nodup_append.2 ⟨h02.1,List.nodup_append.2 ⟨hl.nd,h02.2.1,fun a ha c hc e=>?_⟩,fun a ha c hc e=>?_⟩
  ·subst e
   exact hfo a ha (by simp[hc])
  ·subst e
   rcases List.mem_append.1 hc with hc|hc
   ·exact hfo a hc (by simp[ha])
   ·exact h02.2.2 a ha a hc rfl
 obtain⟨h',fp',S',hle,_,_,_⟩:=S.setOb (hfx:=by rw[hob']) (ob':={ ob' with ver:=ob.ver+1 }) ho hd (fun _ _=>rfl) rfl rfl rfl hrow (hz.trans hsz.symm) (by rw[hlenx];exact hlc) hX hat
  (zJb S ho (ob':=ob') hx hsx (by intro q hq;cases hq) (fun _=>rfl) hob') (fun i x fs y h1 h2=>by rw[hz];exact zD4 S ho (ob':=ob') hall i x fs y h1 h2) (.inl rfl) (by rw[hob']) (fun h=>by
   rcases List.mem_append.1 h with h|h
   ·exact hnd1.1 (by simp[h])
   ·rcases List.mem_append.1 h with h|h
    ·exact hfo b h (List.mem_cons_self ..)
    ·exact hnd1.1 (by simp[h]))
  hndf
  (fun b' hb'=>by
   have key:b'∈f0++f2\/b'∈f:=by
    rcases List.mem_append.1 hb' with h|h
    ·exact .inl (List.mem_append_left _ h)
    ·rcases List.mem_append.1 h with h|h
     ·exact .inr h
     ·exact .inl (List.mem_append_right _ h)
   rcases key with hb'|hb'
   ·have hb3:=List.mem_cons_of_mem b (hmem b' hb')
    exact⟨(hown b' hb3).1,(hown b' hb3).2,fun hs=>(S.shr b' hs).2 o _ ho (by rw[hfp];exact hb3),fun q ob1 hq h1=>S.apart o q _ ob1 ho h1 (Ne.symm hq) b' (by rw[hfp];exact hb3)⟩
   ·have:=hl.ok b' hb'
    exact⟨this.1,this.2.1,this.2.2.1,fun q ob1 _ h1=>this.2.2.2 q ob1 h1⟩)
 exact⟨h',fp',S',hle⟩
theorem zSv (S:Sim w0 fa sh u h fp s tm w) {o i q n:Nat} {fs:List Nat} {s':St} (hs:qDq s o i fs q n=some s') {x:Value} (rx:Rel h sh w (.ref q 0 n) [x] []) {b off c z:Nat} (hd:h.hd o=some (b,off,c,z)) (hc:w.cell? ⟨b,off+h.ofs o i fs,none⟩=some x) :
  ∃h' fp',Sim w0 fa sh u h' fp' s' tm w/\h.Le u h':=by
 unfold qDq at hs;cases hq:zO s.obs q with
 | none=>rw[hq] at hs;cases hs
 | some oq =>
  rw[hq] at hs;simp only at hs;split at hs
  ·rename_i hk
   obtain⟨hbx,_,hn⟩:=hk;obtain⟨f,hsub,hr,_⟩:=zBp S hq hbx (by omega) rx;have hw:(oq.xs.drop 0).take n=oq.xs:=by rw[<-hn];simp
   rw[hw] at hr;have F:=S.freeOb hq hsub;cases ho:zO (kT s.obs q) o with
   | none=>rw[ho] at hs;cases hs
   | some ob =>
    rw[ho] at hs;simp only at hs;split at hs
    ·rename_i hg
     obtain⟨ob',h1,e⟩:=zE hs;subst e;obtain⟨h',fp',S',hle⟩:=F.sim.push (s:={ s with obs:=kT s.obs q }) ho hg hd hc hr h1 F.loose;exact⟨h',fp',S',hle⟩
    ·cases hs
  ·cases hs
theorem zFm {c1:Call} {cfg:Cfg} {s:St} {id:Nat} {f:FuncId} {vs:List V} {x:V×St} (he:xM c1 cfg s id f vs=some x):∃asv r,c1 f asv=some r/\∀c2:Call,c2 f asv=some r->xM c2 cfg s id f vs=some x:=by
 unfold xM at he;cases h1:jW (cfg.md f) vs s with
 | none=>rw[h1] at he;cases he
 | some a =>
  rw[h1] at he;simp only at he;cases h2:jI a.2.1 (cfg.md f) a.1 with
  | none=>rw[h2] at he;cases he
  | some asv =>
   rw[h2] at he;simp only at he;cases h3:c1 f asv with
   | none=>rw[h3] at he;cases he
   | some r =>
    rw[h3] at he;refine⟨asv,r,h3,fun c2 h4=>?_⟩;unfold xM;rw[h1];simp only[h2,h4];exact he
theorem ValsR.up {u':Nat->Prop} (hu:∀o,u o->u' o):∀{vs:List V} {xs:List Value},ValsR h sh u w vs xs->ValsR h sh u' w vs xs
 | [],xs,r=>r
 | v::r,xs,hr=>by
  simp only[ValsR] at hr ⊢;obtain⟨x,q,e,r1,m1,n1,r2⟩:=hr;exact⟨x,q,e,r1,fun o ho=>hu o (m1 o ho),n1,r2.up hu⟩
theorem zT5 {P:Program} {cfg:Cfg} {call:Call} (K:jP P call):∀f vs s id v s',zLp call cfg f vs s id=some (v,s')->(∃fn,P.funcs[f]? = some fn/\fn.body.isSome=true/\(fn.name=="runtime.NumGoroutine")=false) /\
  ∀w0 fa sh u h fp tm w reals,Sim w0 fa sh u h fp s tm w->(∀q,u q->q<id)->ValsR h sh u w vs reals->Calls P f reals.toArray w (fun e w'=>∃x,e = .returned x/\TurnE w0 fa sh u h s' tm id s'.nxt v x w'):=by
 intro f vs s id v s' he
 have ex:∀{s:St} {vs:List V} {x:V×St},xM call cfg s id f vs=some x->∃fn,P.funcs[f]? = some fn/\fn.body.isSome=true/\(fn.name=="runtime.NumGoroutine")=false:=by
  intro s vs x hx;obtain⟨asv,r,h1,_⟩:=zFm hx;exact(K f asv r.1 r.2 h1).1
 have lent_of:∀{s:St} {vs:List V} {x:V×St},xM call cfg s id f vs=some x->∃l,jW (cfg.md f) vs s=some l:=by
  intro s vs x hx;unfold xM at hx;cases h1:jW (cfg.md f) vs s with
  | none=>rw[h1] at hx;cases hx
  | some l=>exact⟨l,rfl⟩
 unfold zLp at he;split at he
 ·rename_i o i fs ver n r
  cases ht:s.take o i fs ver n with
  | none=>rw[ht] at he;cases he
  | some a =>
   rw[ht] at he;simp only at he;cases hl:jW (cfg.md f) (.ref (id+32) 0 n::r) (a.2.2.new (id+32) ⟨false,false,a.1,a.2.1,0⟩) with
   | none=>rw[hl] at he;cases he
   | some l =>
    rw[hl] at he;simp only at he;split at he
    ·rename_i hpres
     cases hc:xM call cfg (a.2.2.new (id+32) ⟨false,false,a.1,a.2.1,0⟩) id f (.ref (id+32) 0 n::r) with
     | none=>rw[hc] at he;cases he
     | some b =>
      rw[hc] at he;simp only at he;obtain⟨s2,hp,e⟩:=zE he;cases e;refine⟨ex hc,fun w0 fa sh u h fp tm w reals S hu hV=>?_⟩;simp only[ValsR] at hV;obtain⟨x,q,rfl,rx0,hm,_,hq⟩:=hV;have rx:Rel h sh w (.plc o i fs ver n) [x] []:=rx0;have huo:u o:=hm o (by simp[V.mention]);obtain⟨h1,fp1,f1,F1,hr1,_⟩:=zI4 S rx ht
      obtain⟨bb,off,c,z,hd,hcell,hlen⟩:∃bb off c z,h.hd o=some (bb,off,c,z)/\w.cell? ⟨bb,off+h.ofs o i fs,none⟩=some x/\a.2.1.length=n:=by
       unfold St.take at ht;cases ha:s.at o i fs ver n with
       | none=>rw[ha] at ht;cases ht
       | some k =>
        rw[ha] at ht;simp only at ht;obtain⟨ho,hv,hg,hn⟩:=zJi ha;obtain⟨ob',_,e⟩:=zE ht;subst e;obtain⟨bb,off,c,z,_,_,_,_,_,_,hd,_⟩:=S.place ho hg
        have:=(S.obs o _ ho).2.pl bb off c z hd i fs _ _ hg
        refine⟨bb,off,c,z,hd,?_,hn⟩;rw[this,hn,hv];simp only[Rel,List.cons.injEq,and_true,true_and] at rx;rw[rx.2]
      have hid:¬u (id+32):=fun k=>by have:=hu _ k;omega
      obtain⟨u2,h2,fp2,T,hR,hui⟩:=zFj (fx:=false) (g:=[]) F1.sim hr1 (by rw[List.append_nil];exact F1.loose) hid;rw[hlen] at hR;have S2:Sim w0 fa sh u2 h2 fp2 (a.2.2.new (id+32) ⟨false,false,a.1,a.2.1,0⟩) tm w:=T.sim;have le2:h.Le u h2:=F1.le.trans T.le (fun _ h=>h)
      have hV2:ValsR h2 sh u2 w (.ref (id+32) 0 n::r) (x::q):=by
       refine⟨x,q,rfl,qV hR rfl (by simp),fun k hk=>?_,by simp,?_⟩
       ·simp only[V.mention,List.mem_singleton] at hk;subst hk;exact hui
       ·exact(hq.keep (⟨le2,fun b hb=>⟨hb,rfl⟩⟩:Goes u h sh w h2 sh w)).up T.uu
      obtain⟨_,hcall⟩:=zCm K S2 hV2 hc (fun k k1 k2 hk=>by
       rcases T.un k hk with hk|hk
       ·have:=hu k hk;omega
       ·omega)
      refine(hcall l hl).mono ?_;rintro e w' ⟨x',rfl,T',kept⟩;refine⟨x',rfl,?_⟩;obtain⟨sh',u',h',fp',S3,rel,men,un,shs,shn,le,uu⟩:=T';obtain⟨ob',hob'⟩:=Option.isSome_iff_exists.1 hpres;have hu2o:u2 o:=T.uu o huo;have hd2:h2.hd o=some (bb,off,c,z):=by rw[le2.hd o huo];exact hd
      have hd3:h'.hd o=some (bb,off,c,z):=by rw[le.hd o hu2o];exact hd2
      have hof:h'.ofs o i fs=h.ofs o i fs:=by rw[le.ofs o hu2o,le2.ofs o huo]
      have rx3:Rel h' sh' w' (.ref (id+32) 0 n) [x] []:=by
       simp only[Rel] at hR ⊢;rw[le.hd _ hui];exact hR
      obtain⟨h4,fp4,S4,le4⟩:=zSv S3 hp rx3 hd3 (by rw[hof,zG8 (kept o ob' bb off c z hob' hd2)];exact hcell);refine⟨sh',u',h4,fp4,S4.same (fun _=>rfl) (fun _=>rfl),rel.keep ⟨le4,fun b hb=>⟨hb,rfl⟩⟩ men,men,fun k hk=>?_,shs,shn,(le2.trans le T.uu).trans le4 (fun k hk=>uu k (T.uu k hk)),fun k hk=>uu k (T.uu k hk)⟩;show u k\/id<=k/\k<id+64;rcases un k hk with hk|hk
      ·rcases T.un k hk with hk|hk
       ·exact .inl hk
       ·exact .inr (by omega)
      ·exact .inr (by omega)
    ·cases he
 ·obtain⟨b,hc,e⟩:=zE he
  cases e;refine⟨ex hc,fun w0 fa sh u h fp tm w reals S hu hV=>?_⟩;obtain⟨l,hl⟩:=lent_of hc;obtain⟨_,hcall⟩:=zCm K S hV hc (fun k k1 _ hk=>by have:=hu k hk;omega);refine(hcall l hl).mono ?_;rintro e w' ⟨x',rfl,T',_⟩;refine⟨x',rfl,?_⟩;obtain⟨sh',u',h',fp',S3,rel,men,un,shs,shn,le,uu⟩:=T';exact⟨sh',u',h',fp',S3.same (fun _=>rfl) (fun _=>rfl),rel,men,un,shs,shn,le,uu⟩
end
section
variable {P : Program} {u : Nat->Prop} {h : Hs} {sh : Nat->Prop} {w w0 : World} {fa : List Nat} {fp : Nat->List Nat} {s : St} {a : Act}
theorem xO {o ver:Nat}:∀{xs:List V} {i:Nat},(yE o ver i xs).length=xs.length
 | [],_=>rfl
 | x::r,i=>by simp[yE,xO (xs:=r)]
theorem zCh {o ver q:Nat}:∀{xs:List V} {i:Nat},q∈V.mentionL (yE o ver i xs)->q=o\/q∈V.mentionL xs
 | [],i,hq=>by simp[yE,V.mentionL] at hq
 | x::r,i,hq=>by
  simp only[yE,V.mentionL,List.mem_append] at hq ⊢;rcases hq with hq|hq
  ·rcases zCy hq with e|e
   ·exact .inl e
   ·exact .inr (.inl e)
  ·rcases zCh hq with e|e
   ·exact .inl e
   ·exact .inr (.inr e)
theorem zF4 {tm:Array Value} (S:Sim w0 fa sh u h fp s tm w) {o:Nat} {ob:Ob} (ho:zO s.obs o=some ob) {b off c z:Nat} (hd:h.hd o=some (b,off,c,z)) (hz:z=ob.sz) :
  ∀{xs:List V} {i:Nat} {cs:List Value} {f:List Nat},(∀j x,xs[j]? = some x->ob.xs[i+j]? = some x)->RelX h sh w z xs cs f->At w b (off+i * z) cs->RelX h sh w z (yE o ob.ver i xs) cs []
 | [],i,cs,f,hx,r,hat=>by
  simp only[RelX] at r;simp only[yE,RelX];exact⟨r.1,trivial⟩
 | x::q,i,cs,f,hx,r,hat=>by
  simp only[RelX] at r;obtain⟨c1,c2,f1,f2,rfl,rfl,el,r1,r2⟩:=r;have h1:=At.append.1 hat;have R:=(S.obs o ob ho).2;have hx0:ob.xs[i]? = some x:=by have:=hx 0 x rfl;simpa using this
  have hg:ob.get i []=some x:=by simp only[Ob.get,hx0,kS]
  have hofs:=R.ofs i x [] x hx0 (by simp[kS]);have h0:h.ofs o i []=i * z:=by rw[hofs,hz];simp[zB1]
  have rl:=zGk (h:=h) (sh:=sh) (w:=w) (o:=o) (i:=i) (ob:=ob) (b:=b) (off:=off) R.ver
   (fun fs' y' hg' j z' hz'=>by
    cases y' with
    | agg xs=>exact zJ9 S ho hg' hz'
    | _=>cases hz')
   (fun fs' sz xs hg'=>R.pl b off c z hd i fs' sz xs hg') hg (by rw[h0];exact h1.1) r1
  have r2':=zF4 S ho hd hz (xs:=q) (i:=i+1) (cs:=c2) (f:=f2) (fun j y hj=>by have:=hx (j+1) y hj;rw[<-this];congr 1;omega) r2 (by
   have:=h1.2
   rw[el,Nat.add_assoc,<- Nat.succ_mul] at this
   exact this)
  simp only[yE,RelX];exact⟨c1,c2,[],[],rfl,rfl,el,rl,r2'⟩
theorem zFa {sh0 u0:Nat->Prop} (S:Sim w0 fa sh u h fp s a.tmps w) {id:Nat} (hid:¬u id) {ob:Ob} (hbx:ob.bx=true) (hfx:ob.fx=true) {c:Nat} {cs:Array Value} {e:TypeId} {ds:List Value} {f:List Nat} {w1:World} (hw1':w1.heap=w.heap/\w1.os=w.os/\w1.output=w.output)
  (hX:RelX h sh w ob.sz ob.xs ds f) (hm:∀q∈V.mentionL ob.xs,u q) (hf:Loose w0 fa sh s.obs fp w f) (hlen:ob.xs.length<=c) (hcs:cs.toList=ds++cs.toList.drop ds.length) (hsz:c * ob.sz<=cs.size) {n:Nat} (hn:n<=c)
  (hu:∀o,u o->u0 o) (hu2:∀o,u0 o->u o) {h0:Hs} (hl0:h0.Le u0 h) (hs1:∀b,sh0 b->sh b) (hs2:∀b,sh b->sh0 b\/(b<w0.heap.size->b∈fa)) :
  Turn w0 fa sh0 u0 h0 (s.new id ob) a.tmps id (.ref id 0 n) (.slice (some ⟨w.heap.size,0,none⟩) n c) (w1.alloc (.cells cs e)):=by
 obtain⟨h1,h2,h3⟩:=zEh w1 (.cells cs e);have hw1:=hw1'.1;rw[hw1] at h1 h2 h3;have hkeep:∀b,b<w.heap.size->(w1.alloc (.cells cs e)).heap[b]? = w.heap[b]?:=fun b hb=>h2 b hb
 have hX':RelX h sh (w1.alloc (.cells cs e)) ob.sz ob.xs ds f:=RelX.keep (u:=u) ⟨Hs.Le.refl u h,fun b hb=>⟨hb,hkeep b (S.shr b hb).1⟩⟩ hX hm (fun b hb=>hkeep b (hf.ok b hb).1)
 obtain⟨h',fp',S',hle,hhd,hofs⟩:=S.newOb (w':=w1.alloc (.cells cs e)) (b:=w.heap.size) (off:=0) (c:=c) (ob:=ob) (ds:=ds) (fps:=f) hid ⟨by omega,hw1'.2.1,hw1'.2.2⟩ (fun b' hb' _=>hkeep b' hb')
  ⟨by omega,fun hb=>by have:=S.size.sz;omega,fun hb=>by have:=(S.shr _ hb).1;omega,fun o ob ho hb=>by have:=((S.own o ob ho).2 _ hb).1;omega⟩
  ⟨cs,e,h1,by omega⟩ hlen hX' (by
   have hat:At (w1.alloc (.cells cs e)) w.heap.size 0 (ds++cs.toList.drop ds.length):=by
    intro i v hi;rw[<-hcs] at hi;simp only[World.cell?,h1,Option.isSome_none,Bool.false_eq_true,if_false,Nat.zero_add]
    simpa using hi
   exact(At.append.1 hat).1)
  (fun x hx=>⟨fun hb=>(by rw[hbx] at hb;cases hb),fun q hq=>hm q (mem_mentionL.2 ⟨x,hx,hq⟩)⟩) (fun hb=>by have:=(hf.ok _ hb).1;omega) hf (by rw[hfx];intro _ e;cases e)
 refine⟨sh,_,h',fp',S',?_,?_,fun o ho=>ho.imp (hu o) (fun e=>by omega),hs1,hs2,hl0.trans hle hu2,fun o ho=>.inl (hu2 o ho)⟩
 ·refine qV ?_ rfl (by intro e;cases e)
  simp only[Rel,hhd];refine⟨trivial,by omega,by simp⟩
 ·intro o ho
  simp only[V.mention,List.mem_singleton] at ho;exact .inr ho
theorem zHq {cfg:Cfg} (C:CfgOK P cfg) {sh0 u0:Nat->Prop} {h0:Hs} (S2:Sim w0 fa sh u h fp s a.tmps w) {ts:Array TypeId} {t t' ty e e':TypeId} (h0':ts[0]? = some t) (h1:ts[1]? = some t') (he:cfg.elem t=some e) (hu':P.underlying t'=some (.slice e')) {z:V} (hz:cfg.zero e=some z)
  {id:Nat} (hid:¬u id) {bs ys:List V} {f1 f2:List Nat} {ay:Option Addr} {cy:Nat} {vx:Value} {ds:List Value} (hdl:ds.length=ys.length * z.cells) (hat:∃b off,ay=some ⟨b,off,none⟩/\At w b off ds) (hXe:RelX h sh w z.cells ys ds f1)
  (rb:(bs=[]/\f2=[]/\vx = .slice none 0 0)\/∃b' off' c ds0 fps0,vx = .slice (some ⟨b',off',none⟩) bs.length c/\f2=b'::fps0/\bs.length<=c/\Row w b' (off'+c * z.cells)/\At w b' off' ds0/\RelX h sh w z.cells bs ds0 fps0)
  (hl:Loose w0 fa sh s.obs fp w (f1++f2)) (hmen:∀q∈V.mentionL (bs++ys),u q) (hmax:(bs++ys).length<zCe) (hne:0<ys.length)
  (hu:∀o,u o->u0 o) (hu2:∀o,u0 o->u o) (hl0:h0.Le u0 h) (hs1:∀b,sh0 b->sh b) (hs2:∀b,sh b->sh0 b\/(b<w0.heap.size->b∈fa)) :
  ∃vr w',(Builtin.append_ ts ty #[vx,.slice ay ys.length cy]).run P w = .ok vr w'/\Turn w0 fa sh0 u0 h0 (s.new id ⟨true,true,z.cells,bs++ys,0⟩) a.tmps id (.ref id 0 (bs++ys).length) vr w':=by
 have huu:=C.elem t e he;obtain⟨i,zv,d,hi,hzv,hsz,hpos,hby,_,_,_,_,hrel,_⟩:=C.zero e z hz;have hzs:zv.cells.size=z.cells:=by rw[<-Rel.len (hrel h sh w)];simp
 have hfit:∀n,n<zCe->n * i.bytes<=140737488355328:=by
  intro n hn;unfold zCe at hn;have h1:n * i.bytes<=n * 65536:=Nat.mul_le_mul_left _ hby;omega
 have hfy:∀w1:World,w1.heap=w.heap->(Builtin.firstCells i.size ys.length (.slice ay ys.length cy)).run P w1 = .ok ds.toArray w1:=by
  intro w1 hw1;obtain⟨b',off',e1,hat⟩:=hat;rw[e1];refine zDq (fun j v hj=>?_) (by rw[hdl,hsz])
  have:=hat j v hj
  simp only[World.cell?,hw1] at this ⊢;exact this
 rcases rb with⟨rfl,hf2,rfl⟩|⟨b',off',c,ds0,fps0,rfl,hf2,hlc,hrow,hat0,hX0⟩
 ·simp only[List.nil_append] at hmen hmax ⊢
  have hcap:=grownCap_ge w (0+ys.length) 0 e;rw[Nat.zero_add] at hcap
  have run:=zA2 (P:=P) (w:=w) (ty:=ty) (ad:=none) (ay:=ay) (sLen:=0) (sCap:=0) (n:=ys.length) (cy:=cy) (olds:=#[]) h0' h1 huu hu' hi hzv (by omega) (by unfold zCe at hmax;omega)
   (growslice_fits (by omega) (hfit _ (by omega))) rfl (hfy w.drew rfl)
  simp only[Nat.zero_add] at run;refine⟨_,_,run,?_⟩;refine zFa S2 hid (w1:=w.drew) (ob:=⟨true,true,z.cells,ys,0⟩) rfl rfl ⟨rfl,rfl,rfl⟩ (ds:=ds) (f:=f1) hXe hmen (hl.sub (List.sublist_append_left ..)) hcap ?_ ?_ hcap hu hu2 hl0 hs1 hs2
  ·simp
  ·simp only[Array.append_empty,Array.empty_append,Array.size_append,size_zeroCells,List.size_toArray,hdl]
   rw[hzs,<- Nat.add_mul];exact Nat.mul_le_mul_right _ (by omega)
 ·have hd0:=RelX.len hX0
  have hnd:(f1++f2).Nodup:=hl.nd;rw[hf2] at hnd
  have hfl:Loose w0 fa sh s.obs fp w (fps0++f1):=by
   refine⟨?_,fun k hk=>hl.ok k ?_⟩
   ·have h3:=List.nodup_append.1 hnd
    have h4:=List.nodup_cons.1 h3.2.1;exact List.nodup_append.2 ⟨h4.2,h3.1,fun p hp q hq e=>h3.2.2 q hq p (List.mem_cons_of_mem _ hp) e.symm⟩
   ·rw[hf2]
    rcases List.mem_append.1 hk with hk|hk<;>simp[hk]
  have hbn:b' ∉ fps0++f1:=by
   have h3:=List.nodup_append.1 hnd;have h4:=List.nodup_cons.1 h3.2.1;intro hk;rcases List.mem_append.1 hk with hk|hk
   ·exact h4.1 hk
   ·exact h3.2.2 b' hk b' (List.mem_cons_self ..) rfl
  have hbl:=hl.ok b' (by rw[hf2];simp);have hXX:RelX h sh w z.cells (bs++ys) (ds0++ds) (fps0++f1):=RelX.append hX0 hXe;have hlapp:(bs++ys).length=bs.length+ys.length:=List.length_append
  by_cases hroom:bs.length+ys.length<=c
  ·have hfitc:off'+bs.length * z.cells+ds.length<=off'+c * z.cells:=by
    rw[hdl,Nat.add_assoc,<- Nat.add_mul];exact Nat.add_le_add_left (Nat.mul_le_mul_right _ hroom) _
   obtain⟨w',hrun,hw,hcell⟩:=yT P b' (off'+bs.length * z.cells) ds 0 w (off'+c * z.cells) hrow (by omega) (RelX.ones hXe)
   have run:=zBa (P:=P) (w:=w) (w':=w') (ty:=ty) (ad:=some ⟨b',off',none⟩) (ay:=ay) (cy:=cy) h0' h1 huu hu' hi hroom (hfy w rfl) (by
    simp only[yW];rw[hsz]
    exact hrun)
   refine⟨_,w',run,?_⟩;simp only[Nat.add_zero] at hcell;have hkeep:∀k,k≠b'->w'.heap[k]? = w.heap[k]?:=hw.other;have hX':RelX h sh w' z.cells (bs++ys) (ds0++ds) (fps0++f1):=RelX.keep (u:=u) ⟨Hs.Le.refl u h,fun k hk=>⟨hk,hkeep k (fun e=>hbl.2.2.1 (e ▸ hk))⟩⟩ hXX hmen (fun k hk=>hkeep k (fun e=>hbn (e ▸ hk)))
   have hat':At w' b' off' (ds0++ds):=by
    refine At.append.2 ⟨fun j k hj=>?_,fun j k hj=>?_⟩
    ·have:=(List.getElem?_eq_some_iff.1 hj).1
     rw[hcell,if_neg (by omega)];exact hat0 j k hj
    ·have:=(List.getElem?_eq_some_iff.1 hj).1
     rw[hcell,if_pos (by omega),<- hj]
     congr 1;omega
   obtain⟨h',fp',S',hle,hhd,_⟩:=S2.newOb (w':=w') (b:=b') (off:=off') (c:=c) (ob:=⟨true,true,z.cells,bs++ys,0⟩) (ds:=ds0++ds) (fps:=fps0++f1) hid ⟨by rw[hw.size];exact Nat.le_refl _,hw.os,hw.out⟩ (fun k _ hk=>hkeep k hk)
    ⟨by rw[hw.size];exact hbl.1,hbl.2.1,hbl.2.2.1,hbl.2.2.2⟩ hw.row (by rw[hlapp];exact hroom) hX' hat' (fun k hk=>⟨fun hb=>(by cases hb),fun q hq=>hmen q (mem_mentionL.2 ⟨k,hk,hq⟩)⟩) hbn hfl (by intro _ e;cases e)
   refine⟨sh,_,h',fp',S',?_,fun o ho=>?_,fun o ho=>ho.imp (hu o) (fun e=>by omega),hs1,hs2,hl0.trans hle hu2,fun o ho=>.inl (hu2 o ho)⟩
   ·refine qV ?_ rfl (by intro e;cases e)
    simp only[Rel,hhd];refine⟨trivial,by rw[hlapp];omega,by rw[hlapp];simp⟩
   ·simp only[V.mention,List.mem_singleton] at ho
    exact .inr ho
  ·have hcap:=grownCap_ge w (bs.length+ys.length) c e
   have run:=zA2 (P:=P) (w:=w) (ty:=ty) (ad:=some ⟨b',off',none⟩) (ay:=ay) (cy:=cy) (olds:=ds0.toArray) h0' h1 huu hu' hi hzv hroom (by rw[hlapp] at hmax;unfold zCe at hmax;omega)
    (growslice_fits (by omega) (hfit _ (by rw[<-hlapp];exact hmax))) (zDq (At.drew hat0) (by rw[hd0,hsz])) (hfy w.drew rfl)
   refine⟨_,_,run,?_⟩;rw[hlapp];refine zFa S2 hid (w1:=w.drew) (ob:=⟨true,true,z.cells,bs++ys,0⟩) rfl rfl ⟨rfl,rfl,rfl⟩ (ds:=ds0++ds) (f:=fps0++f1) hXX hmen hfl (by rw[hlapp];exact hcap) ?_ ?_ hcap hu hu2 hl0 hs1 hs2
   ·simp
   ·simp only[Array.size_append,size_zeroCells,List.size_toArray,hdl,hd0]
    rw[hzs,<- Nat.add_mul,<- Nat.add_mul];exact Nat.mul_le_mul_right _ (by omega)
theorem zUz {tm:Array Value} (S:Sim w0 fa sh u h fp s tm w) {o:Nat} {ob:Ob} (ho:zO s.obs o=some ob) (hne:0<ob.xs.length) :
  ∃b off c ds fps,h.hd o=some (b,off,c,ob.sz)/\ob.xs.length<=c/\Row w b (off+c * ob.sz)/\fp o=b::fps/\At w b off ds/\RelX h sh w ob.sz ob.xs ds fps:=by
 have R:=(S.obs o ob ho).2;have hr:=R.row;cases hd:h.hd o with
 | none=>rw[hd] at hr;rw[hr.1] at hne;simp at hne
 | some p =>
  obtain⟨b,off,c,z⟩:=p;rw[hd] at hr;obtain⟨rfl,h1,h2,ds,fps,h3,h4,h5⟩:=hr;exact⟨b,off,c,ds,fps,rfl,h1,h2,h3,h4,h5⟩
theorem zCl {tm:Array Value} (S:Sim w0 fa sh u h fp s tm w) {o:Nat} {ob:Ob} (ho:zO s.obs o=some ob):∀q∈V.mentionL ob.xs,u q:=fun q hq=>by
 obtain⟨y,hy,hq⟩:=mem_mentionL.1 hq;exact((S.obs o ob ho).2.men y hy).2 q hq
theorem zLs {cfg:Cfg} (C:CfgOK P cfg) (S:Sim w0 fa sh u h fp s a.tmps w) {ts:Array TypeId} {t t' ty:TypeId} (h0:ts[0]? = some t) (h1:ts[1]? = some t') (ht':(cfg.elem t').isSome=true) {id base:Nat} (hid:¬u id) {x y:V} {vx vy:Value}
  (rx:RelS h sh w x vx) (ry:RelS h sh w y vy) (hmx:∀o∈x.mention,u o) (hmy:∀o∈y.mention,u o) {v:V} {s':St} (hv:zD2 cfg s t id base x y=some (v,s')) :
  ∃vr w',(Builtin.append_ ts ty #[vx,vy]).run P w = .ok vr w'/\Turn w0 fa sh u h s' a.tmps id v vr w':=by
 unfold zD2 at hv;cases hzz:(cfg.elem t).bind cfg.zero with
 | none=>rw[hzz] at hv;cases hv
 | some z =>
  rw[hzz] at hv;simp only at hv;obtain⟨e,he,hz⟩:=zE4 hzz;obtain⟨e',he'⟩:=Option.isSome_iff_exists.1 ht';have hu':=C.elem t' e' he';cases hbA:s.baseA x with
  | some b0 =>
   rw[hbA] at hv;simp only at hv;cases hel:s.elems base y with
   | none=>rw[hel] at hv;cases hv
   | some el =>
    rw[hel] at hv;simp only at hv;cases hba:el.2.baseA x with
    | none=>rw[hba] at hv;cases hv
    | some b =>
     rw[hba] at hv;simp only at hv;split at hv
     case isFalse=>cases hv
     rename_i hc
     obtain⟨hbz,hca,hne,hmax⟩:=hc;cases hv
     obtain⟨o,n,rfl⟩:∃o n,x = .ref o 0 n:=by
      unfold St.baseA at hbA;split at hbA
      ·exact⟨_,_,rfl⟩
      ·cases hbA
     have hy1:y.isTup=false/\y≠.und/\y.aggOf=none:=by
      unfold St.elems at hel;split at hel<;>first|(cases hel;done)|exact⟨rfl,by simp,rfl⟩
     have ry':Rel h sh w y [vy] []:=by
      have:=kN ry hy1.2.1 hy1.1
      cases y<;>first|(simp[V.aggOf] at hy1;done)|exact ry|exact absurd rfl hy1.2.1|(simp[V.isTup] at hy1;done)
     have rx':Rel h sh w (.ref o 0 n) [vx] []:=rx;obtain⟨sh1,h1',fp1,f1,F1,hE,hm1⟩:=zG3 S ry' hel;have rx1:Rel h1' sh1 w (.ref o 0 n) [vx] []:=Rel.keep F1.le (fun b hb=>⟨F1.shs b hb,rfl⟩) rx' hmx (fun _ hb=>(by cases hb));have hshw:=F1.shw S;obtain⟨ay,cy,hvy,hE⟩:=hE;simp only[List.cons.injEq,and_true] at hvy;subst hvy;simp only[St.baseA] at hba;cases ho:zO el.2.obs o with
     | none=>rw[ho] at hba;cases hba
     | some ob =>
      rw[ho] at hba;simp only at hba;split at hba
      case isFalse=>cases hba
      rename_i hcb
      obtain⟨hbx,hfx,hn⟩:=hcb;cases hba;have R:=(F1.sim.obs o ob ho).2;have hmo:=zCl F1.sim ho;have F2:=F1.sim.freeOb ho (f:=fp1 o) (List.Sublist.refl _);have hl:Loose w0 fa sh1 (kT el.2.obs o) fp1 w (f1++fp1 o):=(F1.trans F2).loose;have hz2:ob.sz=z.cells:=hbz
      have hXE:el.1=[]/\f1=[]\/∃b off ds,ay=some ⟨b,off,none⟩/\At w b off ds/\ds.length=el.1.length * z.cells/\RelX h1' sh1 w z.cells el.1 ds f1:=by
       rcases hE with⟨e1,e2⟩|⟨b',off',z',ds,e1,hat,hL⟩
       ·exact .inl ⟨e1,e2⟩
       ·have hX:=RelX.recell (RelL.iff.1 hL).1 (vI hca)
        exact .inr ⟨b',off',ds,e1,hat,RelX.len hX,hX⟩
      have hr:=R.row;cases hd:h1'.hd o with
      | none=>rw[hd] at hr;rw[hr.2.2] at hbx;cases hbx
      | some p =>
       obtain⟨b,off,c,zz⟩:=p;rw[hd] at hr;obtain⟨hzz1,hlc,hrow,ds0,fps0,hfp,hat0,hX0⟩:=hr;rw[hzz1,hz2] at hrow hX0;have hrx:=rx1;simp only[Rel,hd,List.cons.injEq,and_true,Nat.zero_mul,Nat.add_zero,Nat.sub_zero,true_and] at hrx;obtain⟨_,hvx⟩:=hrx
       have hmen:∀q∈V.mentionL (ob.xs++el.1),u q:=by
        intro q hq;obtain⟨k,hk,hq⟩:=mem_mentionL.1 hq;rcases List.mem_append.1 hk with hk|hk
        ·exact hmo q (mem_mentionL.2 ⟨k,hk,hq⟩)
        ·rw[jM hm1 k hk] at hq;cases hq
       rcases hXE with⟨e1,e2⟩|⟨b1,off1,ds,e1,hat,hdl,hXe⟩
       ·rw[e1] at hne;simp at hne
       ·exact zHq (ty:=ty) (sh0:=sh) (u0:=u) (h0:=h) C F2.sim h0 h1 he hu' hz hid (bs:=ob.xs) (ys:=el.1) (f1:=f1) (f2:=fp1 o) (ay:=ay) (cy:=cy) (vx:=vx) (ds:=ds) hdl ⟨b1,off1,e1,hat⟩ hXe
         (.inr ⟨b,off,c,ds0,fps0,by rw[hvx,hn],hfp,hlc,hrow,hat0,hX0⟩) hl hmen hmax hne (fun _ h=>h) (fun _ h=>h) F1.le F1.shs hshw
  | none =>
   rw[hbA] at hv;simp only at hv;cases hel:s.elemsA y with
   | none=>rw[hel] at hv;cases hv
   | some el =>
    rw[hel] at hv;simp only at hv;cases hba:s.base x with
    | none=>rw[hba] at hv;cases hv
    | some b =>
     rw[hba] at hv;simp only at hv;split at hv
     case isFalse=>cases hv
     rename_i hc
     obtain⟨hbz,hez,hemp,hpos,hmax⟩:=hc;cases hv;unfold St.elemsA at hel;split at hel
     case h_2=>cases hel
     rename_i o n
     cases ho:zO s.obs o with
     | none=>rw[ho] at hel;cases hel
     | some ob =>
      rw[ho] at hel;simp only at hel;split at hel
      case isFalse=>cases hel
      rename_i hcb
      obtain⟨hbx,hn⟩:=hcb;cases hel;simp only[xO] at hpos hmax
      have hx1:x.isTup=false/\x≠.und/\x.aggOf=none:=by
       unfold St.base at hba;split at hba<;>first|(cases hba;done)|exact⟨rfl,by simp,rfl⟩
      have rx':Rel h sh w x [vx] []:=by
       cases x<;>first|(simp[V.aggOf] at hx1;done)|exact rx|exact absurd rfl hx1.2.1|(simp[V.isTup] at hx1;done)
      obtain⟨b1,off1,c1,ds,fps,hd,hlc,hrow,hfp,hat,hX⟩:=zUz S ho hpos;have hmo:=zCl S ho;have hXl:=zF4 S ho hd rfl (xs:=ob.xs) (i:=0) (cs:=ds) (f:=fps) (fun j x hj=>by rw[Nat.zero_add];exact hj) hX (by simpa using hat);have huo:=(S.obs o ob ho).1
      have hml:∀q∈V.mentionL (yE o ob.ver 0 ob.xs),u q:=fun q hq=>by
       rcases zCh hq with e|e
       ·rw[e];exact huo
       ·exact hmo q e
      obtain⟨h2,fp2,f2,F2,rb,hm2⟩:=zHx S rx' hba;have hXl2:RelX h2 sh w ob.sz (yE o ob.ver 0 ob.xs) ds []:=RelX.keep F2.goes hXl hml (fun _ _=>rfl);have ez:ob.sz=z.cells:=hez;rw[ez] at hXl2;have ry':Rel h sh w (.ref o 0 n) [vy] []:=ry;simp only[Rel,hd,List.cons.injEq,and_true,Nat.zero_mul,Nat.add_zero,Nat.sub_zero,true_and] at ry';obtain⟨_,hvy⟩:=ry';subst hvy;simp only[Rel,if_true,List.cons.injEq,and_true] at rb;have hlen:(yE o ob.ver 0 ob.xs).length=n:=by rw[xO,hn]
      have:=zHq (ty:=ty) (sh0:=sh) (u0:=u) (h0:=h) C F2.sim h0 h1 he hu' hz hid (bs:=[]) (ys:=yE o ob.ver 0 ob.xs) (f1:=[]) (f2:=f2) (ay:=some ⟨b1,off1,none⟩) (cy:=c1) (vx:=vx) (ds:=ds) (RelX.len hXl2) ⟨b1,off1,rfl,hat⟩ hXl2
       (by
        rcases rb with⟨g1,g2,g3⟩|⟨b',off',c,ds0,fps0,g1,g2,g3,g4,g5,g6⟩
        ·exact .inl ⟨rfl,g2,g3⟩
        ·rw[hbz] at g4 g6
         rw[hemp] at g1 g6
         exact .inr ⟨b',off',c,ds0,fps0,g1,g2,Nat.zero_le _,g4,g5,(RelL.iff.1 g6).1⟩) (by simpa using F2.loose) (by simpa using hml) (by simpa [xO] using hmax) (by rw[xO];exact hpos) (fun _ h=>h) (fun _ h=>h) F2.le (fun _ h=>h) (fun _ h=>.inl h)
      rw[hlen,List.nil_append,hlen] at this;simp only[hlen];exact this
theorem RelX.toA {z:Nat}:∀{xs:List V} {cs:List Value} {f:List Nat},RelX h sh w z xs cs f->RelA h sh w xs cs f
 | [],cs,f,r=>by simpa only[RelA,RelX] using r
 | x::q,cs,f,r=>by
  simp only[RelX] at r;obtain⟨c1,c2,f1,f2,e,ef,el,r1,r2⟩:=r;simp only[RelA];exact⟨c1,c2,f1,f2,e,ef,r1,RelX.toA r2⟩
theorem zBg {z:Nat}:∀{xs ys:List V} {cs:List Value} {f:List Nat},V.alikeL xs ys=true->RelX h sh w z xs cs f->xs.length=ys.length/\∀y∈ys,y.cells=z
 | [],ys,cs,f,e,r=>by simp only[V.alikeL,List.isEmpty_iff] at e;subst e;exact⟨rfl,fun y hy=>(by cases hy)⟩
 | x::q,[],cs,f,e,r=>by simp[V.alikeL] at e
 | x::q,y::p,cs,f,e,r=>by
  simp only[V.alikeL,Bool.and_eq_true] at e;simp only[RelX] at r;obtain⟨c1,c2,f1,f2,_,_,el,r1,r2⟩:=r;obtain⟨h1,h2⟩:=zBg e.2 r2;refine⟨by simp[h1],fun y' hy'=>?_⟩;rcases List.mem_cons.1 hy' with rfl|hy'
  ·rw[<-qK e.1,<- Rel.len r1,el]
  ·exact h2 y' hy'
theorem zKa {tm:Array Value} (S:Sim w0 fa sh u h fp s tm w) {o:Nat} {s':St} (hv:s.unalias o=some s') :
  ∃h' fp',Sim w0 fa sh u h' fp' s' tm w/\h.Le u h'/\s'.env=s.env/\s'.nxt=s.nxt:=by
 unfold St.unalias at hv;cases ho:zO s.obs o with
 | none=>rw[ho] at hv;cases hv
 | some ob =>
  rw[ho] at hv;simp only at hv;split at hv
  case isFalse=>cases hv
  rename_i hc
  obtain⟨hbx,hfx⟩:=hc;cases hz:V.fzIL ob.xs { s with obs:=kT s.obs o } with
  | none=>rw[hz] at hv;cases hv
  | some r =>
   rw[hz] at hv;cases hv;obtain⟨huo,R⟩:=S.obs o ob ho;have hr:=R.row;cases hd:h.hd o with
   | none=>rw[hd] at hr;rw[hr.2.2] at hbx;cases hbx
   | some p =>
    obtain⟨b,off,c,z⟩:=p;rw[hd] at hr;obtain⟨hzz,hlc,hrow,ds,fps,hfp,hat,hX⟩:=hr;subst hzz;have F:=S.freeOb ho (f:=b::fps) (by rw[hfp];exact List.Sublist.refl _);have hXA:RelA h sh w ob.xs ds fps:=RelX.toA hX;obtain⟨h1,fp1,f1,L,ra,na,la⟩:=zEs (k:=[b]) F.sim hXA (zCl S ho) (F.loose.perm (List.perm_append_comm (l₁:=[b]))) hz;have hla:Loose w0 fa sh r.2.obs fp1 w (b::f1):=la.perm (List.perm_append_comm (l₂:=[b]));have hal:=zEi hz;have hac:=zBg hal hX;have hXr:RelX h1 sh w ob.sz r.1 ds f1:=RelA.toX ra hac.2;have hlen:r.1.length=ob.xs.length:=hac.1.symm;have hd1:h1.hd o=some (b,off,c,ob.sz):=by rw[L.le.hd o huo];exact hd
    obtain⟨h',fp',S',hle,_,_⟩:=L.sim.backOb (ob':=⟨false,false,ob.sz,r.1,ob.ver+1⟩) (L.absent qS) huo (by rw[L.vrn o qS,R.ver]) hd1 (by rw[hlen];exact hlc) hrow hXr hat (jM na)
     (by
      intro i x fs y hi hg;rw[L.le.ofs o huo]
      exact zD4 S ho hal i x fs y hi hg) (by intro e;cases e) hla
    exact⟨h',fp',S',L.le.trans hle (fun _ h=>h),L.env,L.nxt⟩
theorem zM5 {cfg:Cfg} (C:CfgOK P cfg) (S:Sim w0 fa sh u h fp s a.tmps w) {o:Oper} {t:TypeId} {x ix:Operand} {vx v:V} {k:IntKind} {i:Int} (ho:o.op = .indexAddr t x ix)
  (hx:opV s.env x=some vx) (hix:opV s.env ix=some (.int k i)) (hv:zQf cfg s t vx i=some v):Does P o a w (zE6 h sh u w v):=by
 obtain⟨rx,hmx,hnund⟩:=zY S hx;have ri:=(zY S hix).1;rw[relS_int] at ri;unfold zQf at hv;split at hv
 ·cases hv
 ·rename_i z hz
  obtain⟨e,he,hz⟩:=zE4 hz
  have fin:∀(b off len cap:Nat) (r:Value),a.eval x = .slice (some ⟨b,off,none⟩) len cap->0<=i->i.toNat<len->RelS h sh w v (.pointer (some ⟨b,off+i.toNat * z.cells,none⟩))->(∀q∈v.mention,u q) ->
    Does P o a w (zE6 h sh u w v):=by
   intro b off len cap r hev h0 hi hr hm;refine qN (w':=w) ?_ ⟨rfl,hr,hm⟩;unfold execOp;rw[ho];simp only[hev,ri];rw[zD (zHk C he hz h0 hi)]
   rfl
  split at hv
  case isFalse=>cases hv
  rename_i h0
  split at hv
  case h_2=>cases hv
  rename_i o' n
  split at hv
  case isFalse=>cases hv
  rename_i hin
  split at hv
  ·cases hv
  ·rename_i ob hob
   split at hv
   case isFalse=>cases hv
   rename_i hbf
   split at hv
   ·cases hv
   ·rename_i y hy
    split at hv
    case isFalse=>cases hv
    rename_i hc
    cases hv;have hg:ob.get (0+i.toNat) []=some y:=by simp only[Ob.get,hy,kS]
    obtain⟨b,off,c,zz,d0,d1,d2,f0,f1,f2,hd,hzz,_,_,_,hat,_,hl0,ry,_,_⟩:=S.place hob hg;have R:=(S.obs o' ob hob).2;have hofs:=R.ofs (0+i.toNat) y [] y hy rfl;simp only[zB1,Nat.add_zero] at hofs;have hr:=R.row;rw[hd] at hr;obtain⟨hz1,_,_,ds,fps,_,_,hX⟩:=hr;obtain⟨_,e1',_,_,_,_,_,_,_,hl1,ry',_,_⟩:=RelX.at_ (u:=u) hX (fun q hq=>by obtain⟨y,hy,hq⟩:=mem_mentionL.1 hq;exact(R.men y hy).2 q hq) hy;have hcz:zz=z.cells:=by rw[<-hc,<- Rel.len ry',hl1]
    simp only[RelS,RelS0,Rel,hd,List.cons.injEq,and_true] at rx;obtain⟨_,hle,hev⟩:=rx;refine fin b (off+0 * zz) n (c - 0) undef hev h0 hin ?_ (by intro q hq;simp only[V.mention,List.mem_singleton] at hq;subst hq;exact(S.obs q ob hob).1);refine qV ?_ rfl (by intro e;cases e);simp only[Rel];refine⟨trivial,b,off,c,zz,hd,?_⟩;rw[hofs,<- hzz,hcz,Nat.zero_mul,Nat.zero_add,Nat.add_zero]
mutual
theorem zSu:∀{v v':V},v.snap s=some v'->v.alike v'=true
 | .agg xs,v',hv=>by
  simp only[V.snap] at hv;obtain⟨ys,h1,e⟩:=zE hv;subst e;simp only[V.alike,V.aggOf];exact zD5 h1
 | .int ..,v',hv=>by simp only[V.snap,Option.some.injEq] at hv;subst hv;rfl
 | .bool _,v',hv=>by simp only[V.snap,Option.some.injEq] at hv;subst hv;rfl
 | .str _,v',hv=>by simp only[V.snap,Option.some.injEq] at hv;subst hv;rfl
 | .lst ..,v',hv=>by simp only[V.snap,Option.some.injEq] at hv;subst hv;rfl
 | .emp _,v',hv=>by simp only[V.snap,Option.some.injEq] at hv;subst hv;rfl
 | .vptr _,v',hv=>by simp only[V.snap,Option.some.injEq] at hv;subst hv;rfl
 | .ref ..,v',hv=>by
  simp only[V.snap] at hv;obtain⟨ys,h1,e⟩:=zE hv;subst e;rfl
 | .plc ..,v',hv=>by
  simp only[V.snap] at hv;obtain⟨ys,h1,e⟩:=zE hv;subst e;rfl
 | .ptr ..,v',hv=>by simp[V.snap] at hv
 | .clo ..,v',hv=>by simp[V.snap] at hv
 | .und,v',hv=>by simp[V.snap] at hv
 | .tup _,v',hv=>by simp[V.snap] at hv
 | .iol ..,v',hv=>by simp[V.snap] at hv
 | .iop _,v',hv=>by simp[V.snap] at hv
theorem zD5:∀{xs ys:List V},V.snapL s xs=some ys->V.alikeL xs ys=true
 | [],ys,hv=>by simp only[V.snapL,Option.some.injEq] at hv;subst hv;rfl
 | x::r,ys,hv=>by
  simp only[V.snapL] at hv;cases hx:x.snap s with
  | none=>rw[hx] at hv;cases hv
  | some a =>
   rw[hx] at hv;simp only at hv;obtain⟨b,h1,e⟩:=zE hv;subst e;simp only[V.alikeL,zSu hx,zD5 h1,Bool.and_self]
end
theorem zNq {cfg:Cfg} {call:Call} (K:jP P call) (S:Sim w0 fa sh u h fp s a.tmps w) {o:Oper} {c:Go.Call} {fo:Operand} {f:FuncId} {vs:List V} {id:Nat} {v:V} (ho:o.op = .call c) (hc:c.callee = .value fo)
  (hf:opV s.env fo=some (.clo f [])) (hv:kW s.env c.args.toList=some vs) (hr:zN7 call cfg s f vs=some v) :
  Does P o a w (Turn w0 fa sh u h s a.tmps id v):=by
 obtain⟨rf,mf,_⟩:=zY S hf;simp only[RelS,RelS0,Rel,List.cons.injEq,and_true,true_and,RelC] at rf;obtain⟨caps,ef,rc⟩:=rf;obtain⟨hl,hvr⟩:=xP S hv;unfold zN7 at hr;split at hr
 case h_2=>cases hr
 rename_i q n
 split at hr
 case isFalse=>cases hr
 rename_i hmi
 cases hq:zO s.obs q with
 | none=>rw[hq] at hr;cases hr
 | some ob =>
  rw[hq] at hr;simp only at hr;split at hr
  case isFalse=>cases hr
  rename_i hcb
  obtain⟨hbx,hfx,hn,hpos⟩:=hcb;cases hys:V.snapL s ob.xs with
  | none=>rw[hys] at hr;cases hr
  | some ys =>
   rw[hys] at hr;simp only at hr;split at hr
   case h_2=>cases hr
   rename_i k m hcall
   cases hr;obtain⟨b,off,cc,ds,fps,hd,hlc,hrow,hfp,hat,hX⟩:=zUz S hq (by omega);obtain⟨x0,e0,r0,m0,_⟩:=hvr 0 _ rfl
   have hargs:c.args.toList=[x0]:=by
    cases hca:c.args.toList with
    | nil=>rw[hca] at e0;simp at e0
    | cons y r =>
     rw[hca] at e0 hl;simp only[List.getElem?_cons_zero,Option.some.injEq] at e0;subst e0;cases r with
     | nil=>rfl
     | cons _ _=>simp at hl
   obtain⟨hsn,hmn⟩:=zCq S (RelX.toA hX) (fun b' hb'=>.inr ⟨q,ob,hq,by rw[hfp];simp[hb']⟩) hys;have hal:V.alikeL ob.xs ys=true:=zD5 hys;have hac:=zBg hal hX;have hXs:RelX h (zHu sh s fp) w ob.sz ys ds []:=RelA.toX hsn hac.2;have r0':Rel h sh w (.ref q 0 n) [a.eval x0] []:=r0;simp only[Rel,hd,List.cons.injEq,and_true,Nat.zero_mul,Nat.add_zero,Nat.sub_zero,true_and] at r0';obtain⟨_,hx0⟩:=r0';have hlen:ys.length=n:=by rw[hn,hac.1]
   have hA:ArgsR h (zHu sh s fp) w [.lst false 0 ys] [a.eval x0] []:=by
    simp only[ArgsR];refine⟨_,_,[],[],rfl,rfl,?_,rfl,rfl⟩;refine⟨rfl,rfl,by simp,rfl,?_⟩;show Rel h (zHu sh s fp) w (.lst false 0 ys) [a.eval x0] [];simp only[Rel,Bool.false_eq_true,if_false];refine⟨trivial,some ⟨b,off,none⟩,cc,by rw[hx0,hlen],by omega,.inr ⟨b,off,ob.sz,ds,rfl,.inr ⟨q,ob,hq,by rw[hfp];simp⟩,hat,RelL.iff.2 ⟨hXs,jM hmn⟩⟩⟩
   obtain⟨⟨fn,hfn,hbody,hname⟩,hC⟩:=K f _ _ _ hcall;have hrun:=zJz (w:=w) ho hc ef hfn hbody hname;refine zEo hrun ?_
   have eqargs:c.args.map a.eval++caps=([a.eval x0]).toArray:=by
    apply Array.toList_inj.1;simp[hargs,rc]
   rw[eqargs]
   have hwide:∀b,zHu sh s fp b->b<w.heap.size:=by
    rintro b (hb|⟨o,ob,e,hb⟩)
    ·exact(S.shr b hb).1
    ·exact((S.own o ob e).2 b hb).1
   refine(hC h (zHu sh s fp) w _ [] hA List.nodup_nil (fun b hb=>by cases hb) hwide).mono ?_;rintro e w' ⟨x,rfl,h',sh',fr,fo',L⟩;refine⟨x,rfl,?_⟩;have hret:=L.ret;simp only[zO1,zT8,Rel,List.cons.injEq,and_true] at hret;obtain⟨_,hx,_⟩:=hret;have S':=zIa S (sh':=sh) ⟨List.nodup_nil,fun b hb=>(by cases hb)⟩ L.size (fun b hb _=>L.old b hb (by simp)) (fun _ h=>h) (fun b hb=>⟨Nat.lt_of_lt_of_le (S.shr b hb).1 L.size.sz,.inl hb⟩);exact⟨sh,u,h,fp,S',by subst hx;rw[relS_int],fun o ho=>(by cases ho),fun o ho=>.inl ho,fun _ h=>h,fun b hb=>.inl hb,Hs.Le.refl u h,fun _ h=>h⟩
theorem zUc {cfg:Cfg} (C:CfgOK P cfg) (S:Sim w0 fa sh u h fp s a.tmps w) {o:Oper} {k id base:Nat} {v:V} {s':St} (he:opB cfg k id base s o.op=some (v,s')) (hid:¬u id):Does P o a w (Turn w0 fa sh u h s' a.tmps id v):=by
 unfold opB at he;split at he
 case h_1 x hop =>
  split at he
  case isFalse=>cases he
  split at he
  ·rename_i o' lo n hx
   obtain⟨s1,h1,e⟩:=zE he;cases e;obtain⟨rx,mx,_⟩:=zY S hx;obtain⟨h',fp',S',hle,_,_⟩:=zKa S h1;have hr:RelS h' sh w (.ref o' lo n) (a.eval x):=Rel.keep hle (fun b hb=>⟨hb,rfl⟩) rx mx (fun b hb=>by cases hb);have hD:=zNj (P:=P) S (.inl hop) (show opT cfg s.env o.type x=some (.ref o' lo n) from ?_)
   ·exact hD.mono fun y w' ⟨e1,r1,m1⟩=>by
     subst e1;exact⟨sh,u,h',fp',S',Rel.keep hle (fun b hb=>⟨hb,rfl⟩) r1 m1 (fun b hb=>by cases hb),m1,fun _ h=>.inl h,fun _ h=>h,fun _ h=>.inl h,hle,fun _ h=>h⟩
   ·unfold opT
    split
    ·simp[opV,zHc] at hx
    ·simp[opV,zHc] at hx
    ·exact hx
  ·cases he
 case h_2 t x i hop =>
  split at he
  ·cases he
  rename_i vx h1
  split at he
  ·rename_i n h2
   obtain⟨v1,h3,e⟩:=zE he;cases e;exact qM S (zM5 C S hop h1 h2 h3)
  ·cases he
 case h_3 c hop =>
  split at he
  ·cases he
  rename_i vs h1
  split at he
  ·rename_i hc
   split at he
   ·rename_i x y
    split at he
    ·cases he
    rename_i t ht
    split at he
    ·cases he
    rename_i t' ht'
    split at he
    case isFalse=>cases he
    rename_i hel
    obtain⟨vx,vy,ea,rx,ry,mx,my⟩:=zDn S h1;obtain⟨vr,w',hrun,hT⟩:=zLs (ty:=o.type) C S ht ht' hel hid rx ry mx my he;refine qN ?_ hT;rw[yI hop hc,ea];exact zD hrun
   ·cases he
  ·cases he
 case h_4=>cases he
theorem zTo {cfg:Cfg} {call:Call} (C:CfgOK P cfg) (K:jP P call) (I:zK6 P call) (S:Sim w0 fa sh u h fp s a.tmps w) {o:Oper} {k id base:Nat} {v:V} {s':St} (he:opA call cfg k id base s o.type o.op=some (v,s'))
  (hid:∀q,u q->q<id):Does P o a w (TurnE w0 fa sh u h s' a.tmps id (max id s'.nxt+32) v):=by
 unfold opA at he;split at he
 ·rename_i r hb
  cases he;exact(zUc C S hb (fun hu=>by have:=hid id hu;omega)).mono fun x w' T=>T.toE (by omega)
 ·split at he
  ·rename_i r hb
   obtain⟨v1,h3,e⟩:=zE he;cases e
   have key:∃c fo,o.op = .call c/\c.callee = .value fo/\opV s.env fo=some (.clo r.1 [])/\kW s.env c.args.toList=some r.2:=by
    unfold zDs at hb;split at hb
    case h_2=>cases hb
    rename_i c hop
    split at hb
    ·cases hb
    rename_i vs h1
    split at hb
    ·rename_i fo hc
     split at hb
     ·rename_i f hf
      split at hb
      ·split at hb
       ·cases hb
       ·split at hb
        ·cases hb
         exact⟨c,fo,hop,hc,hf,h1⟩
        ·cases hb
      ·cases hb
     ·cases hb
    ·cases hb
   obtain⟨c,fo,h1,h2,h4,h5⟩:=key;exact(zNq (id:=id) K S h1 h2 h4 h5 h3).mono fun x w' T=>T.toE (by omega)
  ·exact zMk C K I S he hid
theorem zEw {cfg:Cfg} {call:Call} (C:CfgOK P cfg) (K:jP P call) (I:zK6 P call) {F:Fix} {ops:Array Oper} (hd:∀x∈ops.toList,zHa F.n x=true) {Q:Exit->Act->World->Prop} {k base:Nat}:∀(rest pre:List Oper) {s t:St} {a:Act} {w:World} {sh u:Nat->Prop} {h:Hs} {fp:Nat->List Nat},
  ops.toList=pre++rest->Sim F.w0 F.fa sh u h fp s a.tmps w->(∀q,u q->q<s.nxt)->Held F sh u h a->F.b0<=s.nxt ->
  zMb call cfg k ops.toList base rest s=some t ->
  (∀sh u h fp a' w',Sim F.w0 F.fa sh u h fp t a'.tmps w'->(∀q,u q->q<t.nxt)->Held F sh u h a'->F.b0<=t.nxt->Q .normal a' w') ->
  wpOps P ops Q (List.range' pre.length rest.length) a w
 | [],pre,s,t,a,w,sh,u,h,fp,e,S,hu,H,hb,he,hQ=>by
  simp only[zMb,Option.some.injEq] at he;subst he;exact hQ sh u h fp a w S hu H hb
 | o::rest,pre,s,t,a,w,sh,u,h,fp,e,S,hu,H,hb,he,hQ=>by
  have hget:ops[pre.length]? = some o:=by
   rw[<-Array.getElem?_toList,e];simp
  have hmem:o∈ops.toList:=by rw[e];simp
  have e':ops.toList=(pre++[o])++rest:=by rw[e];simp
  have hlen:(pre++[o]).length=pre.length+1:=by simp
  simp only[List.length_cons,List.range'_succ,wpOps,hget];simp only[zMb] at he;cases hg:xA ops.toList s.env o.guard with
  | none=>rw[hg] at he;cases he
  | some b =>
   have hw:=zD3 S hg hd H.n;rw[hg] at he;cases b with
   | true =>
    simp only at he;cases ho:opA call cfg k s.nxt base s o.type o.op with
    | none=>rw[ho] at he;cases he
    | some r =>
     rw[ho] at he;simp only at he;rw[hw,if_pos rfl]
     left
     have hD:=zTo (o:=o) C K I S (v:=r.1) (s':=r.2) ho hu;refine hD _ _ (fun x w' hT=>?_);obtain⟨sh',u',h',fp',S',rx,hm,hu',hs1,hs2,hle,huu⟩:=hT;have hnx:((r.2.put o.dst r.1).on false (max s.nxt r.2.nxt)).nxt=max s.nxt r.2.nxt+32:=rfl
     have hr:=zEw C K I hd rest (pre++[o]) (Q:=Q) (s:=(r.2.put o.dst r.1).on false (max s.nxt r.2.nxt)) (a:=a.put o.dst x) e' ((zEp S' (vZ (hd o hmem) H.n) hm rx).same (fun t=>by rw[zPq]) (fun t=>by rw[zRc])) (fun q hq=>by
       rw[hnx];rcases hu' q hq with hq|hq
       ·have:=hu q hq;omega
       ·exact hq.2) (H.put (id:=s.nxt) (fun o ho=>(hu' o ho).imp_right (·.1)) hb hs1 hs2 hle huu zC8 vL) (by rw[hnx];omega) he hQ
     rw[hlen] at hr;exact hr
   | false =>
    simp only at he;rw[hw];simp only[Bool.false_eq_true,if_false];have hnx:((s.put o.dst (.iop .und)).on false s.nxt).nxt=s.nxt+32:=rfl
    have hr:=zEw C K I hd rest (pre++[o]) (Q:=Q) (s:=(s.put o.dst (.iop .und)).on false s.nxt) (a:=a.put o.dst undef) e' ((zEp (v:=.iop .und) (x:=undef) S (vZ (hd o hmem) H.n) (by intro q hq;cases hq) rfl).same (fun t=>by rw[zPq]) (fun t=>by rw[zRc])) (fun q hq=>by rw[hnx];have:=hu q hq;omega)
     (H.put (id:=s.nxt) (fun o ho=>.inl ho) hb (fun _ h=>h) (fun _ h=>.inl h) (Hs.Le.refl u h) (fun _ h=>h) zC8 vL) (by rw[hnx];omega) he hQ
    rw[hlen] at hr;exact hr
theorem zOw {cfg:Cfg} {call:Call} (C:CfgOK P cfg) (K:jP P call) (J:zK6 P call) {F:Fix} {k id:Nat} {ops:Array Oper} {s':St} (hd:∀x∈ops.toList,zHa F.n x=true) (I:Inv F s a w) (he:zNp call cfg k ops.toList s=some s') :
  (Code.region id ops false).wp P (fun e a' w'=>e = .normal/\Inv F s' a' w') a w:=by
 obtain⟨sh,u,h,fp,S,hu,H,hb⟩:=I;refine wp_region ?_;have hr:=zEw C K J hd (Q:=fun e a' w'=>e = .normal/\Inv F s' a' w') ops.toList [] (t:=s') (by simp) S hu H hb he (fun sh u h fp a' w' S' hu' H' hb'=>⟨rfl,sh,u,h,fp,S',hu',H',hb'⟩)
 simpa [List.range_eq_range'] using hr
end
end Go.Proofs.YtbcgenkegnmkhaaGreat.Ev
namespace Go.Proofs.YtbcgenkegnmkhaaGreat.Ev
open Go
set_option linter.unusedSectionVars false
set_option linter.unusedSimpArgs false
def kG (xs:List Operand):List Nat:=xs.filterMap fun | .tmp t=>some t|_=>none
def zD8 (all:List Oper) (o:Oper):List Nat:=o.dst.toList++kG o.op.operands.toList++(match o.guard with
 | some (j,_)=>((all[j]?).bind (·.dst)).toList
 | none=>[])
def zGs (all:List Oper):Bool :=
 let bits:=yQ all 0 all []
 (all.zipIdx.all fun p=>p.1.after.toList.all fun e=>!Region.binds .any e||decide (e.on<p.2)) &&
 (List.range all.length).all fun j=>(List.range j).all fun i=>(bits.getD j 0).testBit i||match all[i]?,all[j]? with
  | some a,some b=>!(a.dst.toList.any (zD8 all b).contains||b.dst.toList.any (zD8 all a).contains)
  | _,_=>true
def xX (n:Nat):Code->Bool
 | .region _ ops draw=>ops.toList.all (zHa n)&&(!draw||zGs ops.toList)
 | .seq a b=>xX n a&&xX n b
 | .cond _ a b=>xX n a&&xX n b
 | .block _ b=>xX n b
 | .loop b=>xX n b
 | .scope b=>xX n b
 | _=>true
def jC:Code->List Nat
 | .seq a b=>jC a++jC b
 | .cond _ a b=>jC a++jC b
 | .block _ b=>jC b
 | .loop b=>zB4 b::jC b
 | .scope b=>jC b
 | _=>[]
def vQ (full:Code):Code->Prop
 | .seq a b=>vQ full a/\vQ full b
 | .cond _ a b=>vQ full a/\vQ full b
 | .block _ b=>vQ full b
 | .loop b=>qC (zB4 b) full=some b/\vQ full b
 | .scope b=>vQ full b
 | _=>True
theorem yH {k:Nat}:∀{c:Code},k ∉ jC c->qC k c=none
 | .seq a b,h=>by
  simp only[jC,List.mem_append,not_or] at h;simp only[qC];rw[yH h.1,yH h.2];rfl
 | .cond _ a b,h=>by
  simp only[jC,List.mem_append,not_or] at h;simp only[qC];rw[yH h.1,yH h.2];rfl
 | .block _ b,h=>by simp only[jC] at h;simp only[qC];exact yH h
 | .scope b,h=>by simp only[jC] at h;simp only[qC];exact yH h
 | .loop b,h=>by
  simp only[jC,List.mem_cons,not_or] at h;simp only[qC];rw[if_neg (fun e=>h.1 e.symm)];exact yH h.2
 | .skip,_=>rfl
 | .region ..,_=>rfl
 | .rangeFunc ..,_=>rfl
 | .exit _,_=>rfl
 | .label _,_=>rfl
 | .goto _,_=>rfl
 | .ret,_=>rfl
 | .refuse _,_=>rfl
theorem kK {full:Code}:∀{c:Code},(jC c).Nodup->(∀k∈jC c,qC k full=qC k c)->vQ full c
 | .seq a b,hn,h=>by
  simp only[jC] at hn h;obtain⟨n1,n2,n3⟩:=List.nodup_append.1 hn;refine⟨kK n1 fun k hk=>?_,kK n2 fun k hk=>?_⟩
  ·rw[h k (List.mem_append_left _ hk)];simp only[qC]
   rw[yH (c:=b) (fun hb=>n3 k hk k hb rfl)];simp
  ·rw[h k (List.mem_append_right _ hk)];simp only[qC]
   rw[yH (c:=a) (fun ha=>n3 k ha k hk rfl)];simp
 | .cond _ a b,hn,h=>by
  simp only[jC] at hn h;obtain⟨n1,n2,n3⟩:=List.nodup_append.1 hn;refine⟨kK n1 fun k hk=>?_,kK n2 fun k hk=>?_⟩
  ·rw[h k (List.mem_append_left _ hk)];simp only[qC]
   rw[yH (c:=b) (fun hb=>n3 k hk k hb rfl)];simp
  ·rw[h k (List.mem_append_right _ hk)];simp only[qC]
   rw[yH (c:=a) (fun ha=>n3 k ha k hk rfl)];simp
 | .block _ b,hn,h=>by simp only[jC] at hn h;exact kK (c:=b) hn fun k hk=>by rw[h k hk];rfl
 | .scope b,hn,h=>by simp only[jC] at hn h;exact kK (c:=b) hn fun k hk=>by rw[h k hk];rfl
 | .loop b,hn,h=>by
  simp only[jC] at hn h;obtain⟨n1,n2⟩:=List.nodup_cons.1 hn;refine⟨?_,kK n2 fun k hk=>?_⟩
  ·rw[h _ (List.mem_cons_self ..)];simp[qC]
  ·rw[h k (List.mem_cons_of_mem _ hk)];simp only[qC]
   rw[if_neg (fun(e:zB4 b=k)=>n1 (e ▸ hk))]
 | .skip,_,_=>trivial
 | .region ..,_,_=>trivial
 | .rangeFunc ..,_,_=>trivial
 | .exit _,_,_=>trivial
 | .label _,_,_=>trivial
 | .goto _,_,_=>trivial
 | .ret,_,_=>trivial
 | .refuse _,_,_=>trivial
theorem zAp {n k:Nat} {full b:Code}:∀{c:Code},xX n c=true->vQ full c->qC k c=some b->xX n b=true/\vQ full b
 | .seq x y,h,hl,e=>by
  simp only[xX,Bool.and_eq_true] at h;simp only[qC] at e;cases hx:qC k x with
  | some z=>rw[hx] at e;simp only[Option.some_or,Option.some.injEq] at e;subst e;exact zAp h.1 hl.1 hx
  | none=>rw[hx] at e;simp only[Option.none_or] at e;exact zAp h.2 hl.2 e
 | .cond _ x y,h,hl,e=>by
  simp only[xX,Bool.and_eq_true] at h;simp only[qC] at e;cases hx:qC k x with
  | some z=>rw[hx] at e;simp only[Option.some_or,Option.some.injEq] at e;subst e;exact zAp h.1 hl.1 hx
  | none=>rw[hx] at e;simp only[Option.none_or] at e;exact zAp h.2 hl.2 e
 | .block _ x,h,hl,e=>zAp (c:=x) h hl e
 | .scope x,h,hl,e=>zAp (c:=x) h hl e
 | .loop x,h,hl,e=>by
  simp only[qC] at e;split at e
  ·cases e;exact⟨h,hl.2⟩
  ·exact zAp (c:=x) h hl.2 e
 | .skip,_,_,e=>by cases e
 | .region ..,_,_,e=>by cases e
 | .rangeFunc ..,_,_,e=>by cases e
 | .exit _,_,_,e=>by cases e
 | .label _,_,_,e=>by cases e
 | .goto _,_,_,e=>by cases e
 | .ret,_,_,e=>by cases e
 | .refuse _,_,_,e=>by cases e
structure CodeOKs (cfg:Cfg):Prop where
 ok:∀f fn c,cfg.code f=some fn->fn.body=some c->xX fn.ntmps c=true/\(jC c).Nodup
 name:∀f fn,cfg.code f=some fn->(fn.name=="runtime.NumGoroutine")=false
def zDw (P:Program) (cfg:Cfg) (call:Call):Prop :=
 ∀(F:Fix) (id:Nat) (ops:Array Oper) (s s':St) (a:Act) (w:World),(∀x∈ops.toList,zHa F.n x=true)->zGs ops.toList=true->Inv F s a w->xN call cfg ops.toList true s=some s' ->
  (Code.region id ops true).wp P (fun e a' w'=>e = .normal/\Inv F s' a' w') a w
def qBl:Ext->Exit
 | .normal=>.normal
 | .ret=>.ret
 | .exit i=>.exit i
def qGe (F:Fix) (e:Ext) (s:St):Exit->Act->World->Prop:=fun ex a w=>ex=qBl e/\Inv F s a w
def LoopWp (P:Program) (c:Code) (Q:Exit->Act->World->Prop) (a:Act) (w:World):Prop :=
 ∀(b:Frame) (k:List Item) (cs:List Frame),∃e a' w',Q e a' w'/\Arrives P (lone (b.at a (.code c::.inLoop c::k)) cs w) b k cs e a' w'
theorem LoopWp.wp {P:Program} {c:Code} {Q:Exit->Act->World->Prop} {a:Act} {w:World} (h:LoopWp P c Q a w):(Code.loop c).wp P Q a w:=by
 intro b k cs;obtain⟨e,a',w',hq,harr⟩:=h b k cs;exact⟨e,a',w',hq,.of_steps (.one step_loop) harr⟩
theorem LoopWp.of {P:Program} {c:Code} {Q:Exit->Act->World->Prop} {a:Act} {w:World} (h:c.wp P (Exit.then (fun a' w'=>LoopWp P c Q a' w') Q) a w):LoopWp P c Q a w:=by
 intro b k cs;obtain⟨e,a₁,w₁,hq,harr⟩:=h b (.inLoop c::k) cs;cases e with
 | normal =>
  obtain⟨e₂,a₂,w₂,hq₂,harr₂⟩:=hq b k cs;exact⟨e₂,a₂,w₂,hq₂,.of_steps (Steps.trans harr (.one step_inLoop)) harr₂⟩
 | exit id=>exact⟨_,a₁,w₁,hq,.pass (x:=.inLoop c) rfl (fun _ _=>.inl (by simp)) harr⟩
 | goto l=>exact⟨_,a₁,w₁,hq,.pass (x:=.inLoop c) rfl (fun _ _=>.inl (by simp)) harr⟩
 | ret=>exact⟨_,a₁,w₁,hq,.pass (x:=.inLoop c) rfl (fun _ _=>.inl (by simp)) harr⟩
 | panic ch=>exact⟨_,a₁,w₁,hq,.pass (x:=.inLoop c) rfl (fun _ _=>.inl (by simp)) harr⟩
 | outgrown=>exact⟨_,a₁,w₁,hq,.pass (x:=.inLoop c) rfl (fun _ _=>.inl (by simp)) harr⟩
structure OrcOK (P:Program) (cfg:Cfg) (orc:Orc):Prop where
 call:jP P orc.call
 inl:zK6 P orc.call
 loop:∀fn k s r,orc.loop fn k s=some r->∀func full body,cfg.code fn=some func->func.body=some full->qC k full=some body ->
  ∀F a w,F.calm->F.n=func.ntmps->F.np=func.params.size+func.nfree->Inv F s a w->LoopWp P body (qGe F r.1 r.2) a w
section
variable {P : Program} {cfg : Cfg} {orc : Orc}
theorem jN (C:CfgOK P cfg) (O:OrcOK P cfg orc) (D:zDw P cfg orc.call) {fn:FuncId} {func:Func} {full:Code} (hf:cfg.code fn=some func) (hb:func.body=some full) {F:Fix} (hn:F.n=func.ntmps) (hnp:F.np=func.params.size+func.nfree) (hF:F.calm\/∀k s r,orc.loop fn k s=some r->∀body,qC k full=some body->∀a w,Inv F s a w->LoopWp P body (qGe F r.1 r.2) a w) :
  ∀{c:Code} {s:St} {r:Ext×St} {a:Act} {w:World},xX F.n c=true->vQ full c->Inv F s a w->jD orc cfg fn c s=some r->c.wp P (qGe F r.1 r.2) a w
 | .skip,s,r,a,w,hk,hl,I,he=>by
  simp only[jD,Option.some.injEq] at he;subst he;exact wp_skip ⟨rfl,I⟩
 | .region id ops draw,s,r,a,w,hk,hl,I,he=>by
  simp only[jD] at he;split at he
  ·cases he
  ·rename_i s1 h1
   cases he;simp only[xX,Bool.and_eq_true,List.all_eq_true] at hk;unfold vR at h1;split at h1
   ·cases draw with
    | false=>exact zLh C O.call O.inl hk.1 I h1
    | true=>exact D F id ops s s1 a w hk.1 (by simpa using hk.2) I h1
   ·split at h1
    ·cases h1
    ·rename_i hdr
     have:draw=false:=by cases draw<;>simp_all
     subst this;exact zOw C O.call O.inl hk.1 I h1
 | .seq x y,s,r,a,w,hk,hl,I,he=>by
  simp only[xX,Bool.and_eq_true] at hk;simp only[jD] at he;split at he
  ·cases he
  ·rename_i s1 h1
   refine wp_seq (wp_mono (jN C O D hf hb hn hnp hF hk.1 hl.1 I h1) ?_);rintro e a1 w1 ⟨rfl,I1⟩;exact jN C O D hf hb hn hnp hF hk.2 hl.2 I1 he
  ·rename_i r1 hne h1
   cases he;refine wp_seq (wp_mono (jN C O D hf hb hn hnp hF hk.1 hl.1 I h1) ?_);rintro e a1 w1 ⟨rfl,I1⟩;obtain⟨e1,s1⟩:=r;cases e1 with
   | normal=>exact absurd rfl (hne s1)
   | ret=>exact⟨rfl,I1⟩
   | exit i=>exact⟨rfl,I1⟩
 | .cond c x y,s,r,a,w,hk,hl,I,he=>by
  simp only[xX,Bool.and_eq_true] at hk;simp only[jD] at he;obtain⟨sh,u,h,fp,S,_⟩:=id I;split at he
  ·rename_i h1
   have:=(zY S h1).1
   rw[relS_bool] at this;exact wp_cond_true this (jN C O D hf hb hn hnp hF hk.1 hl.1 I he)
  ·rename_i h1
   have:=(zY S h1).1
   rw[relS_bool] at this;exact wp_cond_false this (jN C O D hf hb hn hnp hF hk.2 hl.2 I he)
  ·cases he
 | .block id body,s,r,a,w,hk,hl,I,he=>by
  simp only[jD] at he;split at he
  ·cases he
  ·rename_i i s1 h1
   refine wp_block (wp_mono (jN C O D hf hb hn hnp hF (c:=body) hk hl I h1) ?_);rintro e a1 w1 ⟨rfl,I1⟩;simp only[qBl,Exit.inBlock];split at he
   ·rename_i hi
    cases he;rw[if_pos hi];exact⟨rfl,I1⟩
   ·rename_i hi
    cases he;rw[if_neg hi];exact⟨rfl,I1⟩
  ·rename_i r1 hne h1
   cases he;refine wp_block (wp_mono (jN C O D hf hb hn hnp hF (c:=body) hk hl I h1) ?_);rintro e a1 w1 ⟨rfl,I1⟩;obtain⟨e1,s1⟩:=r;cases e1 with
   | normal=>exact⟨rfl,I1⟩
   | ret=>exact⟨rfl,I1⟩
   | exit i=>exact absurd rfl (hne i s1)
 | .loop body,s,r,a,w,hk,hl,I,he=>by
  simp only[jD] at he;rcases hF with hF|hF
  ·exact(O.loop fn (zB4 body) s r he func full body hf hb hl.1 F a w hF hn hnp I).wp
  ·exact(hF _ _ _ he body hl.1 a w I).wp
 | .exit id,s,r,a,w,hk,hl,I,he=>by
  simp only[jD,Option.some.injEq] at he;subst he;exact wp_exit ⟨rfl,I⟩
 | .ret,s,r,a,w,hk,hl,I,he=>by
  simp only[jD,Option.some.injEq] at he;subst he;exact wp_ret ⟨rfl,I⟩
 | .scope _,s,r,a,w,hk,hl,I,he=>by simp[jD] at he
 | .rangeFunc ..,s,r,a,w,hk,hl,I,he=>by simp[jD] at he
 | .label _,s,r,a,w,hk,hl,I,he=>by simp[jD] at he
 | .goto _,s,r,a,w,hk,hl,I,he=>by simp[jD] at he
 | .refuse _,s,r,a,w,hk,hl,I,he=>by simp[jD] at he
theorem zRz (C:CfgOK P cfg) (B:CodeOKs cfg) (O:OrcOK P cfg orc) (D:zDw P cfg orc.call) {fn:FuncId} {k:Nat} {s:St} {r:Ext×St} (he:zGd orc cfg fn k s=some r) {func:Func} {full body:Code} (hf:cfg.code fn=some func) (hb:func.body=some full)
  (hk:qC k full=some body) {F:Fix} {a:Act} {w:World} (hF:F.calm) (hn:F.n=func.ntmps) (hnp:F.np=func.params.size+func.nfree) (I:Inv F s a w):LoopWp P body (qGe F r.1 r.2) a w:=by
 unfold zGd at he;rw[hf] at he;simp only[hb,Option.bind_some,hk] at he;obtain⟨o1,o2⟩:=B.ok fn func full hf hb;have hl:=kK (full:=full) o2 (fun k _=>rfl);obtain⟨q1,q2⟩:=zAp o1 hl hk;rw[<-hn] at q1;rw[<-hnp] at he;have I1:=zPn hF I (cfg.keep fn k);refine LoopWp.of ?_;split at he
 ·cases he
 ·rename_i s1 h1
  refine wp_mono (jN C O D hf hb hn hnp (.inl hF) q1 q2 I1 h1) ?_;rintro e a1 w1 ⟨rfl,I2⟩;exact O.loop fn k s1 r he func full body hf hb hk F a1 w1 hF hn hnp I2
 ·rename_i e1 s1 hne h1
  cases he;refine wp_mono (jN C O D hf hb hn hnp (.inl hF) q1 q2 I1 h1) ?_;rintro e a1 w1 ⟨rfl,I2⟩;have I3:=zPn hF I2 (cfg.out fn k);cases e1 with
  | normal=>exact absurd rfl hne
  | ret=>exact⟨rfl,I3⟩
  | exit i=>exact⟨rfl,I3⟩
theorem zD0 {call:Call} (C:CfgOK P cfg) (B:CodeOKs cfg) (K:jP P call) (J:zK6 P call) (D:zDw P cfg call):∀(n:Nat) (fn:FuncId) (k:Nat) (s:St) (r:Ext×St),yA call cfg n fn k s=some r->∀func full body,cfg.code fn=some func->func.body=some full->qC k full=some body ->
  ∀F a w,F.n=func.ntmps->F.np=func.params.size+func.nfree->Inv F s a w->LoopWp P body (qGe F r.1 r.2) a w
 | 0,fn,k,s,r,he=>by cases he
 | n+1,fn,k,s,r,he=>by
  intro func full body hf hb hk F a w hn hnp I;have ih:=zD0 C B K J D n;simp only[yA] at he;rw[hf] at he;simp only[hb,Option.bind_some,hk] at he;obtain⟨o1,o2⟩:=B.ok fn func full hf hb;have hl:=kK (full:=full) o2 (fun k _=>rfl);obtain⟨q1,q2⟩:=zAp o1 hl hk;rw[<-hn] at q1;have O:OrcOK P cfg ⟨call,yA call cfg n⟩:=⟨K,J,fun fn k s r e func full body h1 h2 h3 F a w _ h4 h5 I=>ih fn k s r e func full body h1 h2 h3 F a w h4 h5 I⟩
  have hF:F.calm\/∀k s r,(⟨call,yA call cfg n⟩:Orc).loop fn k s=some r->∀body,qC k full=some body->∀a w,Inv F s a w->LoopWp P body (qGe F r.1 r.2) a w :=
   .inr fun k s r e body h3 a w I=>ih fn k s r e func full body hf hb h3 F a w hn hnp I
  refine LoopWp.of ?_;split at he
  ·cases he
  ·rename_i s1 h1
   refine wp_mono (jN C O D hf hb hn hnp hF q1 q2 I h1) ?_;rintro e a1 w1 ⟨rfl,I2⟩;exact ih fn k s1 r he func full body hf hb hk F a1 w1 hn hnp I2
  ·rename_i r1 hne h1
   cases he;refine wp_mono (jN C O D hf hb hn hnp hF q1 q2 I h1) ?_;rintro e a1 w1 ⟨rfl,I2⟩;obtain⟨e1,s1⟩:=r;cases e1 with
   | normal=>exact absurd rfl (hne s1)
   | ret=>exact⟨rfl,I2⟩
   | exit i=>exact⟨rfl,I2⟩
end
def zB2 (i:Nat):V->V
 | .lst true _ xs=>.ref i 0 xs.length
 | .iol _ xs=>.ref i 0 xs.length
 | .iop _=>.ptr i 0 []
 | v=>v
def zHs (i:Nat):V->List (Nat×Ob)
 | .lst true sz xs=>[(i,⟨false,false,sz,xs,0⟩)]
 | .iol sz xs=>[(i,⟨false,true,sz,xs,0⟩)]
 | .iop x=>[(i,⟨true,false,x.cells,[x],0⟩)]
 | _=>[]
theorem zFv (i:Nat) (v:V) (r:List V):zQ i (v::r)=((i,zB2 i v)::(zQ (i+1) r).1,zHs i v++(zQ (i+1) r).2):=by
 cases v with
 | lst own sz xs=>cases own<;>rfl
 | _=>rfl
theorem zGi:∀{r:List V} {i t:Nat},((zO (zQ i r).1 t).isSome=true->i<=t)/\((zO (zQ i r).2 t).isSome=true->i<=t)
 | [],i,t=>by simp[zQ,zO]
 | v::r,i,t=>by
  obtain⟨h1,h2⟩:=zGi (r:=r) (i:=i+1) (t:=t);rw[zFv];refine⟨fun h=>?_,fun h=>?_⟩
  ·simp only[zO] at h
   split at h
   ·omega
   ·have:=h1 h;omega
  ·simp only[kV] at h
   cases ho:zO (zHs i v) t with
   | none=>rw[ho] at h;have:=h2 h;omega
   | some x =>
    unfold zHs at ho;split at ho<;>first|(cases ho;done)|(simp only[zO] at ho;split at ho<;>first|omega|(cases ho;done))
def qG1 (v:V) (x:Value) (hd:Option (Nat×Nat×Nat×Nat)):Prop :=
 match v with
 | .iol sz _=>match hd with
  | none=>x = .slice none 0 0
  | some (b,off,c,z)=>z=sz/\∃n,x = .slice (some ⟨b,off,none⟩) n c
 | .iop _=>∃b off c z,hd=some (b,off,c,z)/\x = .pointer (some ⟨b,off,none⟩)
 | _=>True
def V.lentB:V->Bool
 | .iol ..=>true
 | .iop _=>true
 | _=>false
section
variable {u : Nat->Prop} {h h0 : Hs} {sh : Nat->Prop} {w w0 : World} {fa : List Nat} {fp : Nat->List Nat} {s : St} {tm : Array Value}
theorem Sim.slot (S:Sim w0 fa sh u h fp s tm w) {t:Nat} {v:V} (hm:∀o∈v.mention,u o) (hr:RelS h sh w v (tm.getD t undef)):Sim w0 fa sh u h fp { s with env:=(t,v)::s.env } tm w:=by
 refine⟨S.size,S.old,S.obs,S.own,S.apart,S.shr,fun t' v' e=>?_⟩;simp only[zO] at e;split at e
 ·rename_i he;subst he;cases e;exact⟨hm,hr⟩
 ·exact S.env t' v' e
theorem zZd {v:V} {x:Value} {f k:List Nat} {i:Nat} (S:Sim w0 fa sh u h fp s tm w) (r:ArgR h0 sh w v x f) (hl:Loose w0 fa sh s.obs fp w (f++k)) (hu:¬u i) (hx:tm.getD i undef=x) :
  ∃u' h' fp',Thawed w0 fa sh u h s tm w i (i+1) (zHs i v) k u' h' fp'/\RelS h' sh w (zB2 i v) x/\(∀o∈(zB2 i v).mention,u' o)/\(v.lentB=true->u' i/\qG1 v x (h'.hd i)):=by
 have pinrow:∀{h':Hs} {fp':Nat->List Nat} {u':Nat->Prop} {sz:Nat} {xs:List V} {fx:Bool},Sim w0 fa sh u' h' fp' { s with obs:=[(i,(⟨false,fx,sz,xs,0⟩:Ob))]++s.obs } tm w->Rel h' sh w (.ref i 0 xs.length) [x] []->qG1 (.iol sz xs) x (h'.hd i):=by
  intro h' fp' u' sz xs fx S' r';obtain⟨_,RO⟩:=S'.obs i ⟨false,fx,sz,xs,0⟩ (by simp[zO]);have hrow:=RO.row;simp only[Rel] at r';obtain⟨_,r'⟩:=r';unfold qG1;simp only;split at r'
  ·rename_i e
   rw[e]
   simpa using r'.2.2
  ·rename_i b off c z e
   rw[e] at hrow;rw[e];refine⟨hrow.1,xs.length,?_⟩
   simpa using r'.2
 by_cases h1:∃sz xs,v = .lst true sz xs
 ·obtain⟨sz,xs,rfl⟩:=h1
  obtain⟨u',h',fp',T,r',hi⟩:=zFj (fx:=false) S (show Rel h0 sh w (.lst true sz xs) [x] f from r) hl hu;exact⟨u',h',fp',T,qV r' rfl (by simp[zB2]),fun o ho=>by simp only[zB2,V.mention,List.mem_singleton] at ho;subst ho;exact hi,fun e=>by cases e⟩
 ·by_cases h2:∃sz xs,v = .iol sz xs
  ·obtain⟨sz,xs,rfl⟩:=h2
   obtain⟨u',h',fp',T,r',hi⟩:=zFj (fx:=true) S (show Rel h0 sh w (.lst true sz xs) [x] f from r) hl hu;exact⟨u',h',fp',T,qV r' rfl (by simp[zB2]),fun o ho=>by simp only[zB2,V.mention,List.mem_singleton] at ho;subst ho;exact hi,fun _=>⟨hi,pinrow T.sim r'⟩⟩
  ·by_cases h3:∃y,v = .iop y
   ·obtain⟨y,rfl⟩:=h3
    obtain⟨b,off,ds,fps,rfl,rfl,hrow,hat,hr,hm⟩:=r;have hlb:=hl.left;have hb0:=hlb.ok b (List.mem_cons_self ..);have hbn:b ∉ fps:=(List.nodup_cons.1 hlb.nd).1
    obtain⟨h',fp',S',hle,hhd,hofs,e1,e2⟩:=S.newObF (w':=w) (ob:=⟨true,false,y.cells,[y],0⟩) (c:=1) hu (Grew.refl _) (fun _ _ _=>rfl) hb0 (by simpa using hrow) (by simp) (ds:=ds) (fps:=fps)
     (by
      simp only[RelX]
      exact⟨ds,[],fps,[],by simp,by simp,Rel.len hr,hr.any hm,rfl,rfl⟩) hat
     (fun z hz=>by simp only[List.mem_singleton] at hz;subst hz;exact⟨fun _=>hm,by rw[hm];intro q hq;cases hq⟩) hbn (hlb.sub (List.sublist_cons_self ..)) (by simp)
    have hoz:h'.ofs i 0 []=0:=by
     rw[hofs 0 y [] rfl];cases y<;>simp[zB1]
    refine⟨_,h',fp',⟨S'.same (fun _=>rfl) zDt,hle,fun o ho=>.inl ho,fun o ho=>ho.imp_right (fun e=>by omega),?_,by omega,?_⟩,qV ?_ rfl (by simp[zB2]),?_,fun _=>⟨.inr rfl,b,off,1,y.cells,hhd,rfl⟩⟩
    ·refine⟨hl.right.nd,fun b' hb'=>⟨(hl.right.ok b' hb').1,(hl.right.ok b' hb').2.1,(hl.right.ok b' hb').2.2.1,fun o ob' ho=>?_⟩⟩
     simp only[zHs] at ho;rw[zDt] at ho
     by_cases e:o=i
     ·subst e
      rw[e2];exact fun hk=>(List.nodup_append.1 hl.nd).2.2 b' hk b' hb' rfl
     ·simp only[St.new,zT e] at ho
      rw[e1 o e];exact(hl.right.ok b' hb').2.2.2 o ob' ho
    ·intro o ho
     simp only[zHs,zO] at ho;split at ho
     ·omega
     ·cases ho
    ·simp only[zB2,Rel,List.cons.injEq,and_true,true_and]
     exact⟨b,off,1,y.cells,hhd,by rw[hoz];rfl⟩
    ·intro o ho
     simp only[zB2,V.mention,List.mem_singleton] at ho;exact .inr ho
   ·have hr:f=[]/\v.mention=[]/\v≠.und/\v.isTup=false/\RelS h0 sh w v x:=by
     unfold ArgR at r;split at r
     ·exact absurd ⟨_,_,rfl⟩ h1
     ·exact absurd ⟨_,_,rfl⟩ h2
     ·exact absurd ⟨_,rfl⟩ h3
     ·exact r
    obtain⟨rfl,hm,hn,ht,hr⟩:=hr
    have ho:zHs i v=[]:=by
     unfold zHs;split
     ·exact absurd ⟨_,_,rfl⟩ h1
     ·exact absurd ⟨_,_,rfl⟩ h2
     ·exact absurd ⟨_,rfl⟩ h3
     ·rfl
    have hs:zB2 i v=v:=by
     unfold zB2;split
     ·exact absurd ⟨_,_,rfl⟩ h1
     ·exact absurd ⟨_,_,rfl⟩ h2
     ·exact absurd ⟨_,rfl⟩ h3
     ·rfl
    have hb:v.lentB=false:=by
     unfold V.lentB;split
     ·exact absurd ⟨_,_,rfl⟩ h2
     ·exact absurd ⟨_,rfl⟩ h3
     ·rfl
    have T:=Thawed.nil S hl i;rw[ho,hs,hb];refine⟨u,h,fp,⟨T.sim,T.le,T.uu,fun o ho=>.inl ho,T.loose,by omega,fun o ho=>by simp[zO] at ho⟩,?_,(by rw[hm];intro o ho;cases ho),fun e=>by cases e⟩;exact hr.keep zBr (by rw[hm];intro o ho;cases ho)
theorem zIz:∀{args:List V} {i:Nat} {reals:List Value} {f k:List Nat} {u:Nat->Prop} {h:Hs} {fp:Nat->List Nat} {s:St},Sim w0 fa sh u h fp s tm w->ArgsR h0 sh w args reals f->Loose w0 fa sh s.obs fp w (f++k)->(∀q,u q->q<i)->(∀j x,reals[j]? = some x->tm.getD (i+j) undef=x) ->
  ∃u' h' fp',Sim w0 fa sh u' h' fp' ⟨(zQ i args).1++s.env,(zQ i args).2++s.obs,s.nxt⟩ tm w/\(∀q,u' q->u q\/i<=q/\q<i+args.length)/\h.Le u h'/\(∀o,u o->u' o) /\
   (∀j v x,args[j]? = some v->reals[j]? = some x->v.lentB=true->u' (i+j)/\qG1 v x (h'.hd (i+j)))/\Loose w0 fa sh ((zQ i args).2++s.obs) fp' w k/\reals.length=args.length
 | [],i,reals,f,k,u,h,fp,s,S,r,hl,hu,ht=>by
  simp only[ArgsR] at r;obtain⟨rfl,rfl⟩:=r;exact⟨u,h,fp,S.same (fun _=>rfl) (fun _=>rfl),fun q hq=>.inl hq,Hs.Le.refl u h,fun _ h=>h,fun j v x e=>by simp at e,hl,rfl⟩
 | v::r,i,reals,f,k,u,h,fp,s,S,ra,hl,hu,ht=>by
  simp only[ArgsR] at ra;obtain⟨x,q,f1,f2,rfl,rfl,r1,r2⟩:=ra;have hui:¬u i:=fun h=>by have:=hu i h;omega
  obtain⟨u1,h1,fp1,T,rx,hm,hp⟩:=zZd (k:=f2++k) S r1 (by rw[<-List.append_assoc];exact hl) hui (ht 0 x rfl);have hti:tm.getD i undef=x:=ht 0 x rfl;have S1:=T.sim.slot (t:=i) hm (by rw[hti];exact rx)
  have hu1:∀q,u1 q->q<i+1:=fun q hq=>by
   rcases T.un q hq with hq|hq
   ·have:=hu q hq;omega
   ·omega
  obtain⟨u2,h2,fp2,S2,hu2,hle2,huu2,hp2,hl2,hlen⟩:=zIz (args:=r) (i:=i+1) (reals:=q) S1 r2 T.loose hu1 (fun j y e=>by
   have:=ht (j+1) y e
   rw[<-this];congr 1;omega)
  have ho:∀o,zO ((zQ i (v::r)).2++s.obs) o=zO ((zQ (i+1) r).2++(zHs i v++s.obs)) o:=by
   intro o;rw[zFv];simp only[kV];cases ha:zO (zHs i v) o with
   | none=>simp
   | some a =>
    cases hb:zO (zQ (i+1) r).2 o with
    | none=>simp
    | some b =>
     have k1:=(zGi (r:=r) (i:=i+1) (t:=o)).2 (by rw[hb];rfl);have k2:=T.ids o (by rw[ha];rfl);omega
  refine⟨u2,h2,fp2,S2.same (fun t=>?_) ho,fun o ho=>?_,T.le.trans hle2 T.uu,fun o ho=>huu2 o (T.uu o ho),?_,hl2.same ho,by simp[hlen]⟩
  ·rw[zFv]
   simp only[kV,zO,List.cons_append];split
   ·rename_i e
    subst e;cases hb:zO (zQ (i+1) r).1 i with
    | none=>rfl
    | some b=>have:=(zGi (r:=r) (i:=i+1) (t:=i)).1 (by rw[hb];rfl);omega
   ·rfl
  ·rcases hu2 o ho with ho|ho
   ·rcases T.un o ho with ho|ho
    ·exact .inl ho
    ·exact .inr (by simp only[List.length_cons];omega)
   ·exact .inr (by simp only[List.length_cons];omega)
  ·intro j v' x' e1 e2 hb
   cases j with
   | zero =>
    simp only[List.getElem?_cons_zero,Option.some.injEq] at e1 e2;subst e1;subst e2;obtain⟨k1,k2⟩:=hp hb;refine⟨huu2 i k1,?_⟩;simp only[Nat.add_zero];rw[hle2.hd i k1];exact k2
   | succ j =>
    have:=hp2 j v' x' e1 e2 hb
    rw[show i+(j+1)=i+1+j from by omega];exact this
end
end Go.Proofs.YtbcgenkegnmkhaaGreat.Ev
namespace Go.Proofs.YtbcgenkegnmkhaaGreat.Ev
open Go
set_option linter.unusedSectionVars false
set_option linter.unusedSimpArgs false
section
variable {P : Program} {u : Nat->Prop} {h h0 : Hs} {sh : Nat->Prop} {w w0 : World} {fa : List Nat} {fp : Nat->List Nat} {s : St} {tm : Array Value} {a : Act}
def ResR (h:Hs) (sh u:Nat->Prop) (w:World):List V->List Value->Prop
 | [],xs=>xs=[]
 | v::r,xs=>∃x q,xs=x::q/\RelS h sh w v x/\(∀o∈v.mention,u o)/\ResR h sh u w r q
theorem ResR.keep {h':Hs} {sh':Nat->Prop} {w':World} (g:Goes u h sh w h' sh' w'):∀{vs:List V} {xs:List Value},ResR h sh u w vs xs->ResR h' sh' u w' vs xs
 | [],xs,r=>r
 | v::r,xs,hr=>by
  simp only[ResR] at hr ⊢;obtain⟨x,q,e,r1,m1,r2⟩:=hr;exact⟨x,q,e,r1.keep g m1,m1,ResR.keep g r2⟩
theorem zGw {cfg:Cfg} (C:CfgOK P cfg) (S:Sim w0 fa sh u h fp s a.tmps w) {g:ResultVar->Sem Value} (h1:∀t,g (.tmp t)=pure (a.tmps.getD t undef)) (h2:∀ad t,g (.cell ad t)=(do loadVar t (<- asAddr (a.tmps.getD ad undef)))) :
  ∀{l:List ResultVar} {vs:List V},zEz cfg s l=some vs->∃xs,(l.mapM g).run P w = .ok xs w/\ResR h sh u w vs xs
 | [],vs,he=>by
  simp only[zEz,Option.some.injEq] at he;subst he;exact⟨[],rfl,rfl⟩
 | r::l,vs,he=>by
  simp only[zEz] at he;cases hr:qGw cfg s r with
  | none=>rw[hr] at he;cases he
  | some v =>
   rw[hr] at he;simp only at he;cases hq:zEz cfg s l with
   | none=>rw[hq] at he;cases he
   | some q =>
    rw[hq] at he;simp only[zJ,Option.some.injEq] at he;subst he;obtain⟨xs,hrun,hR⟩:=zGw C S h1 h2 hq
    have one:∃x,(g r).run P w = .ok x w/\RelS h sh w v x/\∀o∈v.mention,u o:=by
     cases r with
     | tmp t =>
      obtain⟨k1,k2,_⟩:=zY S (show opV s.env (.tmp t)=some v from hr);exact⟨a.tmps.getD t undef,by rw[h1];rfl,k1,k2⟩
     | cell ad ty =>
      simp only[qGw] at hr;cases hz:cfg.zero ty with
      | none=>rw[hz] at hr;cases hr
      | some z =>
       rw[hz] at hr;simp only at hr;cases hx:opV s.env (.tmp ad) with
       | none=>rw[hx] at hr;cases hr
       | some vx =>
        rw[hx] at hr;obtain⟨p,x,e1,e2,e3,e4⟩:=zI2 C S hz hx hr;refine⟨x,?_,e3,e4⟩;rw[h2];have e1':a.tmps.getD ad undef = .pointer (some p):=e1;rw[e1']
        have:(asAddr (.pointer (some p))).run P w = .ok p w:=rfl
        rw[zD this];exact e2
    obtain⟨x,hx,k1,k2⟩:=one;refine⟨x::xs,?_,x,xs,rfl,k1,k2,hR⟩;rw[List.mapM_cons,zD hx,zD hrun]
    rfl
theorem zKp:∀{vs:List V} {xs:List Value} {h:Hs} {fp:Nat->List Nat} {s:St} {r:List V×St},Sim w0 fa sh u h fp s tm w->ResR h sh u w vs xs->V.fzL vs s=some r ->
  ∃h' fp' f,Freed w0 fa sh u h fp s sh h' fp' r.2 tm w f (fun _=>True)/\zIx h' sh w r.1 xs f/\∀v∈r.1,v.isTup=false
 | [],xs,h,fp,s,r,S,hr,hv=>by
  simp only[V.fzL,Option.some.injEq] at hv;subst hv;simp only[ResR] at hr;subst hr;exact⟨h,fp,[],Freed.refl S _,⟨rfl,rfl⟩,fun v hv=>by cases hv⟩
 | v::q,xs,h,fp,s,r,S,hr,hv=>by
  simp only[ResR] at hr;obtain⟨x,p,rfl,rx,hm,hr⟩:=hr;simp only[V.fzL] at hv;cases hx:v.fz s with
  | none=>rw[hx] at hv;cases hv
  | some b =>
   rw[hx] at hv;simp only at hv;cases hq:V.fzL q b.2 with
   | none=>rw[hq] at hv;cases hv
   | some c =>
    rw[hq] at hv;simp only[zJ,Option.some.injEq] at hv;subst hv;have ht:=zAd hx;have hn:v≠.und:=fun e=>by subst e;simp[V.fz] at hx
    have rc:=kN rx hn ht;obtain⟨h1,fp1,f1,F1,r1,m1⟩:=zDm S rc hm hx;obtain⟨h2,fp2,f2,F2,r2,t2⟩:=zKp F1.sim (hr.keep F1.goes) hq;have hal:=zDk (vM v) hx;refine⟨h2,fp2,f1++f2,(F1.trans F2).mono (fun _ _=>trivial),⟨x,p,f1,f2,rfl,rfl,⟨m1,?_⟩,r2⟩,?_⟩
    ·have r1':Rel h2 sh w b.1 x.cells.toList f1:=r1.any m1
     split
     ·rename_i ys e
      rw[e] at r1' hal
      have:∃zs,v = .agg zs:=by
       cases v<;>first|exact⟨_,rfl⟩|(simp[V.alike,V.aggOf] at hal)
      obtain⟨zs,rfl⟩:=this;obtain⟨cs,rfl,_⟩:=rx;simp only[Rel,Value.cells] at r1';exact⟨cs,rfl,r1'⟩
     ·rename_i hna
      have ha:v.aggOf=none:=by
       cases hva:v.aggOf with
       | none=>rfl
       | some zs =>
        have e:=yJ hva;subst e;cases hb:b.1.aggOf with
        | none=>have:=zBu hal;rw[hb] at this;simp[V.aggOf] at this
        | some ys=>exact absurd (yJ hb) (hna ys)
      rw[zDe rx hn ht ha] at r1';exact r1'
    ·intro k hk
     rcases List.mem_cons.1 hk with rfl|hk
     ·cases hb:b.1 with
      | tup zs =>
       rw[hb] at r1;simp only[Rel] at r1
      | iop zs =>
       rw[hb] at r1;simp only[Rel] at r1
      | _=>rfl
     ·exact t2 k hk
theorem zVy {vs:List V} {xs:List Value} {f:List Nat} (r:zIx h sh w vs xs f) (ht:∀v∈vs,v.isTup=false):zO1 h sh w (zFi vs) (if h:xs.length=1 then xs[0] else .tuple xs.toArray) f:=by
 have tup:∀{vs:List V} {xs:List Value} {f:List Nat},zIx h sh w vs xs f->xs.length=vs.length:=by
  intro vs
  induction vs with
  | nil=>intro xs f r;simp only[zIx] at r;rw[r.1];rfl
  | cons v q ih =>
   intro xs f r;simp only[zIx] at r;obtain⟨x,p,f1,f2,rfl,_,_,r2⟩:=r;simp[ih r2]
 have hl:=tup r
 match vs,r,ht,hl with
 | [v],r,ht,hl =>
  simp only[zIx] at r;obtain⟨x,p,f1,f2,rfl,rfl,r1,rfl,rfl⟩:=r;simp only[List.length_cons,List.length_nil,zFi,List.append_nil];have hv:=ht v (List.mem_cons_self ..);unfold zO1;split
  ·simp[V.isTup] at hv
  ·exact r1
 | [],r,ht,hl =>
  have:xs=[]:=List.length_eq_zero_iff.1 hl
  subst this;exact⟨#[],rfl,r⟩
 | v::v'::q,r,ht,hl =>
  rw[dif_neg (by rw[hl];simp)];exact⟨xs.toArray,rfl,by simpa using r⟩
theorem zH0 {fn:Func} {xs:List Value} {tm:Array Value} (hr:∀g:ResultVar->Sem Value,(∀t,g (.tmp t)=pure (tm.getD t undef))->(∀ad t,g (.cell ad t)=(do loadVar t (<- asAddr (tm.getD ad undef))))->(fn.results.toList.mapM g).run P w = .ok xs w) :
  (results fn tm).run P w = .ok (if h:xs.length=1 then xs[0] else .tuple xs.toArray) w:=by
 unfold results;rw[Array.mapM_eq_mapM_toList];simp only[map_eq_pure_bind,bind_assoc,pure_bind];rw[zD (hr _ (fun _=>rfl) (fun _ _=>rfl))]
 have:∀ys:Array Value,ys=xs.toArray->(pure (if h:ys.size=1 then ys[0] else Value.tuple ys):Sem Value).run P w = .ok (if h:xs.length=1 then xs[0] else .tuple xs.toArray) w:=by
  rintro ys rfl;rw[qI];simp
 exact this _ rfl
theorem zC2:∀{args:List V} {i:Nat} {reals:List Value} {outs:List V} {k:List Nat} {h:Hs} {fp:Nat->List Nat} {s:St},Sim w0 fa sh u h fp s tm w->reals.length=args.length ->
  (∀j v x,args[j]? = some v->reals[j]? = some x->v.lentB=true->u (i+j)/\qG1 v x (h.hd (i+j)))->Loose w0 fa sh s.obs fp w k->xT i args s=some outs ->
  ∃fo,(∀h',OutsR h' sh w args reals outs fo)/\(fo++k).Nodup/\∀b∈fo,b<w.heap.size/\(b<w0.heap.size->b∈fa)/\¬sh b
 | [],i,reals,outs,k,h,fp,s,S,hlen,hp,hl,ho=>by
  simp only[xT,Option.some.injEq] at ho;subst ho;exact⟨[],fun h'=>⟨rfl,rfl⟩,hl.nd,fun b hb=>by cases hb⟩
 | v::r,i,reals,outs,k,h,fp,s,S,hlen,hp,hl,ho=>by
  match reals,hlen,hp with
  | x::q,hlen,hp =>
  have hlen':q.length=r.length:=by simpa using hlen
  have hp':∀{h1:Hs},h.Le u h1->∀j v' x',r[j]? = some v'->q[j]? = some x'->v'.lentB=true->u (i+1+j)/\qG1 v' x' (h1.hd (i+1+j)):=by
   intro h1 hle j v' x' e1 e2 hb;obtain⟨k1,k2⟩:=hp (j+1) v' x' e1 e2 hb;rw[show i+(j+1)=i+1+j from by omega] at k1 k2;exact⟨k1,by rw[hle.hd _ k1];exact k2⟩
  simp only[xT] at ho;split at ho
  ·rename_i sz ys
   obtain⟨hui,hpin⟩:=hp 0 _ x rfl rfl rfl;simp only[Nat.add_zero] at hui hpin;cases hi:zO s.obs i with
   | none=>rw[hi] at ho;cases ho
   | some ob =>
    rw[hi] at ho;simp only at ho;split at ho
    ·cases ho
    rename_i hbx
    have hbx:ob.bx=false:=by simpa using hbx
    cases hq:xT (i+1) r { s with obs:=kT s.obs i } with
    | none=>rw[hq] at ho;cases ho
    | some os =>
     rw[hq] at ho;simp only[zJ,Option.some.injEq] at ho;subst ho;have F:=S.freeOb hi (List.Sublist.refl (fp i));have hb:=F.beside hl;obtain⟨fo,hO,hnd,hok⟩:=zC2 F.sim hlen' (hp' F.le) hb hq;have hRO:=(S.obs i ob hi).2
     have hmen:V.mentionL ob.xs=[]:=by
      apply List.eq_nil_iff_forall_not_mem.2;intro o ho;obtain⟨y,hy,ho⟩:=mem_mentionL.1 ho;rw[(hRO.men y hy).1 hbx] at ho;cases ho
     refine⟨fp i++fo,fun h'=>?_,?_,fun b hb'=>?_⟩
     ·simp only[OutsR]
      refine⟨x,q,ob.xs,os,fp i,fo,rfl,rfl,rfl,hmen,?_,hO h'⟩;have hrow:=hRO.row;unfold qG1 at hpin;simp only at hpin;split at hpin
      ·rename_i e
       rw[e] at hrow;exact .inl ⟨hpin,hrow.1,hrow.2.1⟩
      ·rename_i b off c z e
       rw[e] at hrow;obtain⟨rfl,n,hx⟩:=hpin;obtain⟨k1,k2,k3,ds,fps,k4,k5,k6⟩:=hrow;exact .inr ⟨b,off,n,c,ds,fps,hx,k4,k2,k3,k5,RelX.keep (zBr (h:=h) (h':=h')) k6 (by rw[hmen];intro o ho;cases ho) (fun _ _=>rfl)⟩
     ·have hp2:(fo++(fp i++k)).Perm (fp i++fo++k):=by
       rw[<-List.append_assoc];exact List.Perm.append_right k List.perm_append_comm
      exact hp2.nodup hnd
     ·rcases List.mem_append.1 hb' with hb'|hb'
      ·have:=hb.ok b (List.mem_append_left _ hb')
       exact⟨this.1,this.2.1,this.2.2.1⟩
      ·exact hok b hb'
  ·rename_i y0
   obtain⟨hui,hpin⟩:=hp 0 _ x rfl rfl rfl;simp only[Nat.add_zero] at hui hpin;cases hi:zO s.obs i with
   | none=>rw[hi] at ho;cases ho
   | some ob =>
    rw[hi] at ho;simp only at ho;split at ho
    ·rename_i y hy
     split at ho
     ·cases ho
     rename_i a hz
     cases hq:xT (i+1) r a.2 with
     | none=>rw[hq] at ho;cases ho
     | some os =>
      rw[hq] at ho;simp only[zJ,Option.some.injEq] at ho;subst ho;obtain⟨b,off,c,z,hd,rfl⟩:=hpin;have hRO:=(S.obs i ob hi).2;have hrow:=hRO.row;rw[hd] at hrow;obtain⟨hz',hlc,hrw,ds,fps,hfp,hat,hX⟩:=hrow;rw[hy] at hX hlc;simp only[RelX] at hX;obtain⟨c1,c2,f1,f2,e1,e2,el,r1,rfl,rfl⟩:=hX;simp only[List.append_nil] at e1 e2;subst e1;subst e2;have F:=S.freeOb hi (f:=b::fps) (by rw[hfp];exact List.Sublist.refl _);have hb:=F.beside hl;have hyu:∀o∈y.mention,u o:=(hRO.men y (by rw[hy];exact List.mem_singleton.2 rfl)).2
      obtain⟨h',fp',f',L,ra,na,la⟩:=zHb (g:=fps) (k:=b::k) F.sim r1 hyu (hb.perm (by
       show(b::(fps++k)).Perm (fps++b::k)
       exact(List.perm_middle (l₁:=fps) (l₂:=k) (a:=b)).symm)) hz
      obtain⟨fo,hO,hnd,hok⟩:=zC2 L.sim hlen' (hp' L.le) la hq;refine⟨(b::f')++fo,fun h''=>?_,?_,fun b1 hb1=>?_⟩
      ·simp only[OutsR]
       refine⟨_,q,a.1,os,b::f',fo,rfl,rfl,rfl,na,⟨b,off,ds,f',rfl,rfl,?_,hat,ra.any na⟩,hO h''⟩;have hcl:a.1.cells=z:=by rw[<-qK (zHm (old:=.und) hz),<- Rel.len r1,el]
       rw[hcl];obtain⟨cs,e,k1,k2⟩:=hrw;refine⟨cs,e,k1,Nat.le_trans ?_ k2⟩;simp only[List.length_cons,List.length_nil] at hlc
       have:1 * z<=c * z:=Nat.mul_le_mul_right _ hlc
       omega
      ·have hp2:(fo++(f'++b::k)).Perm ((b::f')++fo++k):=by
        have p1:(f'++b::k).Perm ((b::f')++k):=List.perm_middle;have p2:=List.Perm.append_left fo p1;refine p2.trans ?_;rw[<-List.append_assoc];exact List.Perm.append_right k List.perm_append_comm
       exact hp2.nodup hnd
      ·rcases List.mem_append.1 hb1 with hb1|hb1
       ·have:b1∈f'++b::k:=by
         rcases List.mem_cons.1 hb1 with rfl|hb1
         ·simp
         ·simp[hb1]
        have:=la.ok b1 this
        exact⟨this.1,this.2.1,this.2.2.1⟩
       ·exact hok b1 hb1
    ·cases ho
  ·rename_i n1 n2
   obtain⟨fo,hO,hnd,hok⟩:=zC2 S hlen' (hp' (Hs.Le.refl u h)) hl ho;refine⟨fo,fun h'=>?_,hnd,hok⟩;unfold OutsR;split
   ·exact absurd rfl (n1 _ _)
   ·exact absurd rfl (n2 _)
   ·exact⟨x,q,rfl,hO h'⟩
theorem zDi {cfg:Cfg} {orc:Orc} (C:CfgOK P cfg) (B:CodeOKs cfg) (O:OrcOK P cfg orc) (D:zDw P cfg orc.call) {f:FuncId} {args:List V} {v:V} {outs:List V} (he:vW orc cfg f args=some (v,outs)) :
  (∃fn,P.funcs[f]? = some fn/\fn.body.isSome=true/\(fn.name=="runtime.NumGoroutine")=false) /\
  ∀h sh w reals fps,ArgsR h sh w args reals fps->fps.Nodup->(∀b∈fps,b<w.heap.size/\¬sh b)->(∀b,sh b->b<w.heap.size)->Calls P f reals.toArray w (qJr h sh w fps args reals v outs):=by
 unfold vW at he;cases hf:cfg.code f with
 | none=>rw[hf] at he;cases he
 | some fn =>
  rw[hf] at he;simp only at he;cases hb:fn.body with
  | none=>rw[hb] at he;cases he
  | some body =>
   rw[hb] at he;simp only at he;split at he
   ·rename_i hnp
    split at he
    ·cases he
    ·rename_i r hcode
     split at he
     ·rename_i hend
      split at he
      ·cases he
      ·rename_i vs hres
       split at he
       ·cases he
       ·rename_i q hfz
        obtain⟨os,hos,e⟩:=zE he;cases e;refine⟨⟨fn,C.code f fn hf,by rw[hb];rfl,B.name f fn hf⟩,fun h sh w reals fps hA hnd hok hsh=>?_⟩;obtain⟨ok1,ok2⟩:=B.ok f fn body hf hb;refine calls_of_wp (C.code f fn hf) hb ?_
        have S0:Sim w fps sh (fun _=>False) h (fun _=>[]) ⟨[],[],args.length⟩ (reals.toArray++Array.replicate (fn.ntmps - reals.toArray.size) undef) w :=
         ⟨Grew.refl _,fun _ _ _=>rfl,fun o ob e=>(by cases e),fun o ob e=>(by cases e),fun o o' ob ob' e=>(by cases e),fun b hb=>⟨hsh b hb,fun o ob e=>(by cases e)⟩,fun t v e=>(by cases e)⟩
        have hl0:Loose w fps sh ([]:List (Nat×Ob)) (fun _=>[]) w (fps++[]):=by
         rw[List.append_nil];exact⟨hnd,fun b hb=>⟨(hok b hb).1,fun _=>hb,(hok b hb).2,fun o ob e=>by cases e⟩⟩
        obtain⟨u1,h1,fp1,S1,hu1,hle1,huu1,hpin1,hl1,hlen⟩:=zIz (i:=0) (k:=[]) S0 hA hl0 (fun q h=>h.elim) (fun j x e=>by
         have hj:=(List.getElem?_eq_some_iff.1 e).1;rw[Array.getD_eq_getD_getElem?,Array.getElem?_append_left (by simpa using hj)]
         simp[e])
        let F:Fix:=⟨w,fps,sh,fn.ntmps,fn.params.size+fn.nfree,fun o=>∃v x,args[o]? = some v/\reals[o]? = some x/\v.lentB=true,h1.hd,fun _=>False,h1,0⟩
        have I0:Inv F ⟨(zQ 0 args).1,(zQ 0 args).2,args.length⟩ { tmps:=reals.toArray++Array.replicate (fn.ntmps - reals.toArray.size) undef,defers:=[] } w:=by
         refine⟨sh,u1,h1,fp1,S1.same (fun t=>by simp) (fun o=>by simp),fun q hq=>?_,⟨fun _ h=>h,fun _ h=>.inl h,?_,rfl,?_,Hs.Le.refl _ _,fun _ h=>h.elim,fun _ _=>.inr (Nat.zero_le _)⟩,Nat.zero_le _⟩
         ·rcases hu1 q hq with hq|hq
          ·exact hq.elim
          ·simpa using hq.2
         ·simp only[F,Array.size_append,Array.size_replicate];omega
         ·rintro o ⟨v,x,e1,e2,e3⟩
          have hlt:=(List.getElem?_eq_some_iff.1 e1).1
          have:=(hpin1 o v x e1 e2 e3).1
          rw[Nat.zero_add] at this;exact⟨by simp only[F];omega,this,rfl⟩
        have hwp:=jN C O D hf hb (F:=F) rfl rfl (.inl ⟨fun _ h=>h,rfl⟩) ok1 (kK ok2 (fun k _=>rfl)) I0 hcode;refine wp_mono hwp ?_;rintro ex a w' ⟨rfl,sh2,u2,h2,fp2,S2,hu2,H,_⟩
        have fin:a.defers=[]/\∃x,(results fn a.tmps).run P w' = .ok x w'/\qJr h sh w fps args reals (zFi q.1) outs (.returned x) w':=by
         refine⟨H.d,?_⟩
         obtain⟨xs,hR⟩:∃xs,∀g:ResultVar->Sem Value,(∀t,g (.tmp t)=pure (a.tmps.getD t undef))->(∀ad t,g (.cell ad t)=(do loadVar t (<- asAddr (a.tmps.getD ad undef))))->(fn.results.toList.mapM g).run P w' = .ok xs w'/\ResR h2 sh2 u2 w' vs xs:=by
          obtain⟨xs,e1,e2⟩:=zGw C S2 (g:=fun | .tmp t=>pure (a.tmps.getD t undef) | .cell ad t=>(do loadVar t (<- asAddr (a.tmps.getD ad undef)))) (fun _=>rfl) (fun _ _=>rfl) hres;refine⟨xs,fun g k1 k2=>?_⟩
          have:g=(fun | .tmp t=>pure (a.tmps.getD t undef) | .cell ad t=>(do loadVar t (<- asAddr (a.tmps.getD ad undef)))):=by
           funext r;cases r with
           | tmp t=>exact k1 t
           | cell ad t=>exact k2 ad t
          rw[this];exact⟨e1,e2⟩
         have hrun:=zH0 (P:=P) (w:=w') (fn:=fn) (tm:=a.tmps) (xs:=xs) (fun g k1 k2=>(hR g k1 k2).1);have hRR:=(hR (fun | .tmp t=>pure (a.tmps.getD t undef) | .cell ad t=>(do loadVar t (<- asAddr (a.tmps.getD ad undef)))) (fun _=>rfl) (fun _ _=>rfl)).2;obtain⟨h3,fp3,fr,F3,hret,htup⟩:=zKp S2 hRR hfz
         obtain⟨fo,hO,hnd2,hok2⟩:=zC2 (i:=0) F3.sim hlen (fun j v x e1 e2 e3=>by
          obtain⟨k1,k2,k3⟩:=H.pin j ⟨v,x,e1,e2,e3⟩;rw[Nat.zero_add];refine⟨k2,?_⟩;rw[F3.le.hd j k2,k3]
          have:=(hpin1 j v x e1 e2 e3).2
          rw[Nat.zero_add] at this
          exact this) F3.loose hos
         refine⟨_,hrun,_,rfl,h3,sh2,fr,fo,⟨zVy hret htup,hO h3,(List.perm_append_comm (l₁:=fo)).nodup hnd2,fun b hb=>?_,S2.size,fun b hb hn=>S2.old b hb hn,H.s0,fun b hb=>⟨(S2.shr b hb).1,H.s1 b hb⟩⟩⟩;rcases List.mem_append.1 hb with hb|hb
         ·have:=F3.loose.ok b hb
          exact⟨this.1,this.2.1,this.2.2.1⟩
         ·exact hok2 b hb
        rcases hend with e|e
        ·rw[e];exact fin
        ·rw[e];exact fin
     ·cases he
   ·cases he
end
section
variable {P : Program} {u : Nat->Prop} {h : Hs} {sh : Nat->Prop} {w : World}
theorem zTi:∀{vs:List V} {xs:List Value} {i t:Nat} {v:V},ValsR h sh u w vs xs->zO (zAl i vs) t=some v->∃x,i<=t/\xs[t - i]? = some x/\RelS h sh w v x/\∀o∈v.mention,u o
 | [],xs,i,t,v,_,e=>by cases e
 | y::r,xs,i,t,v,hr,e=>by
  simp only[ValsR] at hr;obtain⟨x,q,rfl,r1,m1,_,r2⟩:=hr;simp only[zAl,zO] at e;split at e
  ·rename_i ht
   subst ht;cases e;exact⟨x,Nat.le_refl _,by simp,r1,m1⟩
  ·rename_i ht
   obtain⟨x',h1,h2,h3⟩:=zTi r2 e;refine⟨x',by omega,?_,h3⟩;rw[show t - i=(t - (i+1))+1 from by omega,List.getElem?_cons_succ];exact h2
theorem zP5:∀{vs:List V} {xs:List Value},ValsR h sh u w vs xs->xs.length=vs.length
 | [],xs,r=>by simp only[ValsR] at r;rw[r];rfl
 | y::q,xs,r=>by
  simp only[ValsR] at r;obtain⟨x,p,rfl,_,_,_,r2⟩:=r;simp[zP5 r2]
theorem zHf {α:Type}:∀{l:List (Nat×α)} {e:Nat×α},e∈l->∃v,zO l e.1=some v
 | (k,v)::r,e,h=>by
  simp only[zO]
  by_cases hk:k=e.1
  ·exact⟨v,if_pos hk⟩
  ·rw[if_neg hk]
   rcases List.mem_cons.1 h with rfl|h
   ·exact absurd rfl hk
   ·exact zHf h
theorem zRx {v:V} {x:Value} (ht:v.isTup=false) (r:RelS h sh w v x):RelS0 h sh w v x:=by
 cases v<;>first|exact r|(simp[V.isTup] at ht;done)
theorem zPu:∀{vs:List V} {xs:List Value},ResR h sh u w vs xs->(∀v∈vs,v.isTup=false)->xs.length=vs.length/\RelSL h sh w vs xs/\∀o∈V.mentionL vs,u o
 | [],xs,r,_=>by simp only[ResR] at r;subst r;exact⟨rfl,rfl,fun o ho=>by cases ho⟩
 | v::q,xs,r,ht=>by
  simp only[ResR] at r;obtain⟨x,p,rfl,r1,m1,r2⟩:=r;obtain⟨k1,k2,k3⟩:=zPu r2 (fun v hv=>ht v (List.mem_cons_of_mem _ hv));refine⟨by simp[k1],⟨x,p,rfl,zRx (ht v (List.mem_cons_self ..)) r1,k2⟩,fun o ho=>?_⟩;simp only[V.mentionL,List.mem_append] at ho;rcases ho with ho|ho
  ·exact m1 o ho
  ·exact k3 o ho
theorem qDx {vs:List V} {xs:List Value} (r:ResR h sh u w vs xs) (ht:∀v∈vs,v.isTup=false):RelS h sh w (zFi vs) (if h:xs.length=1 then xs[0] else .tuple xs.toArray)/\∀o∈(zFi vs).mention,u o:=by
 obtain⟨k1,k2,k3⟩:=zPu r ht
 match vs,r,k1,k2,k3 with
 | [v],r,k1,k2,k3 =>
  simp only[ResR] at r;obtain⟨x,p,rfl,r1,m1,rfl⟩:=r;simp only[List.length_cons,List.length_nil,zFi];exact⟨r1,m1⟩
 | [],r,k1,k2,k3 =>
  have:xs=[]:=List.length_eq_zero_iff.1 k1
  subst this;exact⟨⟨#[],rfl,k2⟩,k3⟩
 | v::v'::q,r,k1,k2,k3 =>
  rw[dif_neg (by rw[k1];simp)];exact⟨⟨xs.toArray,rfl,by simpa using k2⟩,k3⟩
theorem zV8 {cfg:Cfg} {call:Call} (C:CfgOK P cfg) (B:CodeOKs cfg) (K:jP P call) (J:zK6 P call) (D:zDw P cfg call):∀f vs s id v s',zPj call cfg f vs s id=some (v,s')->(∃fn,P.funcs[f]? = some fn/\fn.body.isSome=true/\(fn.name=="runtime.NumGoroutine")=false) /\
  ∀w0 fa sh u h fp tm w reals,Sim w0 fa sh u h fp s tm w->(∀q,u q->q<id)->ValsR h sh u w vs reals->Calls P f reals.toArray w (fun e w'=>∃x,e = .returned x/\TurnE w0 fa sh u h s' tm id s'.nxt v x w'):=by
 intro f vs s id v s' he;unfold zPj at he;cases hf:cfg.code f with
 | none=>rw[hf] at he;cases he
 | some fn =>
  rw[hf] at he;simp only at he;cases hb:fn.body with
  | none=>rw[hb] at he;cases he
  | some body =>
   rw[hb] at he;simp only at he;split at he
   ·rename_i hnp
    split at he
    ·cases he
    ·rename_i r hcode
     split at he
     ·rename_i hend
      split at he
      ·cases he
      ·rename_i ws hres
       split at he
       ·rename_i htup
        cases he;refine⟨⟨fn,C.code f fn hf,by rw[hb];rfl,B.name f fn hf⟩,fun w0 fa sh u h fp tm w reals S hu hV=>?_⟩;obtain⟨ok1,ok2⟩:=B.ok f fn body hf hb;refine calls_of_wp (C.code f fn hf) hb ?_;have hlen:=zP5 hV
        have fa_of:∀b,b∈s.obs.flatMap (fun e=>fp e.1)->∃o ob,zO s.obs o=some ob/\b∈fp o:=by
         intro b hb;obtain⟨e,he,hb⟩:=List.mem_flatMap.1 hb;obtain⟨ob,ho⟩:=zHf he;exact⟨e.1,ob,ho,hb⟩
        have mem_of:∀o ob,zO s.obs o=some ob->∀b∈fp o,b∈s.obs.flatMap (fun e=>fp e.1):=by
         intro o ob ho b hb
         have hk:∀{l:List (Nat×Ob)},zO l o=some ob->(o,ob)∈l:=by
          intro l
          induction l with
          | nil=>intro e;cases e
          | cons e r ih =>
           obtain⟨k,y⟩:=e;intro he;simp only[zO] at he;split at he
           ·rename_i hk;subst hk;cases he;exact List.mem_cons_self ..
           ·exact List.mem_cons_of_mem _ (ih he)
         exact List.mem_flatMap.2 ⟨(o,ob),hk ho,hb⟩
        have S0:Sim w (s.obs.flatMap (fun e=>fp e.1)) sh u h fp ⟨zAl 0 vs,s.obs,id⟩ (reals.toArray++Array.replicate (fn.ntmps - reals.toArray.size) undef) w:=by
         refine⟨Grew.refl _,fun _ _ _=>rfl,S.obs,fun o ob e=>⟨(S.own o ob e).1,fun b hb=>⟨((S.own o ob e).2 b hb).1,fun _=>mem_of o ob e b hb⟩⟩,S.apart,S.shr,fun t v e=>?_⟩;obtain⟨x,_,h2,h3,h4⟩:=zTi hV e;rw[Nat.sub_zero] at h2;refine⟨h4,?_⟩;have hj:=(List.getElem?_eq_some_iff.1 h2).1
         have ex:(reals.toArray++Array.replicate (fn.ntmps - reals.toArray.size) undef).getD t undef=x:=by
          rw[Array.getD_eq_getD_getElem?,Array.getElem?_append_left (by simpa using hj)];simp[h2]
         rw[ex];exact h3
        let F:Fix:=⟨w,s.obs.flatMap (fun e=>fp e.1),sh,fn.ntmps,fn.params.size+fn.nfree,fun _=>False,fun _=>none,u,h,id⟩
        have I0:Inv F ⟨zAl 0 vs,s.obs,id⟩ { tmps:=reals.toArray++Array.replicate (fn.ntmps - reals.toArray.size) undef,defers:=[] } w:=by
         refine⟨sh,u,h,fp,S0,hu,⟨fun _ h=>h,fun _ h=>.inl h,?_,rfl,fun o ho=>ho.elim,Hs.Le.refl _ _,fun _ h=>h,fun _ h=>.inl h⟩,Nat.le_refl _⟩;simp only[F,Array.size_append,Array.size_replicate];omega
        have hwp:=jN C (orc:=⟨call,yA call cfg 6⟩) ⟨K,J,fun fn k s r e func full body h1 h2 h3 F a w _ h4 h5 I=>zD0 C B K J D 6 fn k s r e func full body h1 h2 h3 F a w h4 h5 I⟩ D hf hb (F:=F) rfl rfl (.inr fun k s r e body h3 a w I=>zD0 C B K J D 6 f k s r e fn _ body hf hb h3 F a w rfl rfl I) ok1 (kK ok2 (fun k _=>rfl)) I0 hcode;refine wp_mono hwp ?_;rintro ex a w' ⟨rfl,sh2,u2,h2,fp2,S2,hu2,H,hb2⟩
        have fin:a.defers=[]/\∃x,(results fn a.tmps).run P w' = .ok x w'/\∃x',Ending.returned x = .returned x'/\TurnE w0 fa sh u h ⟨s.env,r.2.obs,r.2.nxt⟩ tm id r.2.nxt (zFi ws) x' w':=by
         refine⟨H.d,?_⟩
         obtain⟨xs,hR⟩:∃xs,∀g:ResultVar->Sem Value,(∀t,g (.tmp t)=pure (a.tmps.getD t undef))->(∀ad t,g (.cell ad t)=(do loadVar t (<- asAddr (a.tmps.getD ad undef))))->(fn.results.toList.mapM g).run P w' = .ok xs w'/\ResR h2 sh2 u2 w' ws xs:=by
          obtain⟨xs,e1,e2⟩:=zGw C S2 (g:=fun | .tmp t=>pure (a.tmps.getD t undef) | .cell ad t=>(do loadVar t (<- asAddr (a.tmps.getD ad undef)))) (fun _=>rfl) (fun _ _=>rfl) hres;refine⟨xs,fun g k1 k2=>?_⟩
          have:g=(fun | .tmp t=>pure (a.tmps.getD t undef) | .cell ad t=>(do loadVar t (<- asAddr (a.tmps.getD ad undef)))):=by
           funext r;cases r with
           | tmp t=>exact k1 t
           | cell ad t=>exact k2 ad t
          rw[this];exact⟨e1,e2⟩
         have hrun:=zH0 (P:=P) (w:=w') (fn:=fn) (tm:=a.tmps) (xs:=xs) (fun g k1 k2=>(hR g k1 k2).1);have hRR:=(hR (fun | .tmp t=>pure (a.tmps.getD t undef) | .cell ad t=>(do loadVar t (<- asAddr (a.tmps.getD ad undef)))) (fun _=>rfl) (fun _ _=>rfl)).2
         obtain⟨k1,k2⟩:=qDx hRR (fun v hv=>by
          rw[List.all_eq_true] at htup
          simpa using htup v hv)
         refine⟨_,hrun,_,rfl,sh2,u2,h2,fp2,?_,k1,k2,fun q hq=>?_,H.s0,fun b hb=>?_,H.le,H.uu⟩
         ·have back:∀b,b<w0.heap.size->b∈s.obs.flatMap (fun e=>fp e.1)->b∈fa:=by
           intro b hlt hb;obtain⟨o,ob,ho,hb⟩:=fa_of b hb;exact((S.own o ob ho).2 b hb).2 hlt
          refine⟨S.size.trans S2.size,fun b hlt hn=>?_,S2.obs,fun o ob e=>⟨(S2.own o ob e).1,fun b hb=>⟨((S2.own o ob e).2 b hb).1,fun hlt=>back b hlt (((S2.own o ob e).2 b hb).2 (Nat.lt_of_lt_of_le hlt S.size.sz))⟩⟩,S2.apart,S2.shr,fun t v e=>?_⟩
          ·exact(S2.old b (Nat.lt_of_lt_of_le hlt S.size.sz) (fun hb=>hn (back b hlt hb))).trans (S.old b hlt hn)
          ·obtain⟨m1,m2⟩:=S.env t v e
           refine⟨fun o ho=>H.uu o (m1 o ho),m2.keep (w':=w') (sh':=sh2) (h':=h2) ⟨H.le,fun b hb=>⟨H.s0 b hb,S2.old b (S.shr b hb).1 (fun hm=>?_)⟩⟩ m1⟩;obtain⟨o,ob,ho,hm⟩:=fa_of b hm;exact(S.shr b hb).2 o ob ho hm
         ·rcases H.un q hq with h|h
          ·exact .inl h
          ·exact .inr ⟨h,hu2 q hq⟩
         ·rcases H.s1 b hb with h|h
          ·exact .inl h
          ·refine .inr fun hlt=>?_
           obtain⟨o,ob,ho,hm⟩:=fa_of b (h (Nat.lt_of_lt_of_le hlt S.size.sz));exact((S.own o ob ho).2 b hm).2 hlt
        rcases hend with e|e
        ·rw[e];exact fin
        ·rw[e];exact fin
       ·cases he
     ·cases he
   ·cases he
end
end Go.Proofs.YtbcgenkegnmkhaaGreat.Ev
namespace Go.Proofs.YtbcgenkegnmkhaaGreat.Ev
open Go
set_option linter.unusedSectionVars false
set_option linter.unusedSimpArgs false
noncomputable def zJe (ext:Call) (orc:Orc) (cfg:Cfg) (f:FuncId) (args:List V):Option (V×List V) :=
 match ext f args with
 | some r=>some r
 | none=>zCa orc cfg f args
noncomputable def xY (ext:Call) (cfg:Cfg):Nat->Orc
 | 0=>⟨⟨fun _ _=>none,fun _ _ _ _=>none⟩,fun _ _ _=>none⟩
 | n+1=>⟨⟨zJe ext (xY ext cfg n) cfg,inE (xY ext cfg n).call cfg⟩,zGd (xY ext cfg n) cfg⟩
noncomputable def lim (ext:Call) (cfg:Cfg):Orc where
 call:=⟨fun f asv=>open Classical in if h:∃n,((xY ext cfg n).call f asv).isSome=true then(xY ext cfg h.choose).call f asv else none,
  fun f vs s id=>open Classical in if h:∃n,((xY ext cfg n).call.i f vs s id).isSome=true then(xY ext cfg h.choose).call.i f vs s id else none⟩
 loop fn k s:=open Classical in if h:∃n,((xY ext cfg n).loop fn k s).isSome=true then(xY ext cfg h.choose).loop fn k s else none
theorem zTw {c1:Call} {cfg:Cfg} {id base:Nat} {s:St} {ty:TypeId} {o:Op} {x:V×St} (he:opE c1 cfg id base s ty o=some x) :
  (∃f asv r,c1 f asv=some r/\∀c2:Call,c2 f asv=some r->opE c2 cfg id base s ty o=some x)\/(∃f vs s' id' r,c1.i f vs s' id'=some r/\∀c2:Call,c2.i f vs s' id'=some r->opE c2 cfg id base s ty o=some x)\/∀c2:Call,opE c2 cfg id base s ty o=some x:=by
 by_cases hc:∃c,o = .call c
 ·obtain⟨c,rfl⟩:=hc
  simp only[opE] at he ⊢;cases h1:kW s.env c.args.toList with
  | none=>rw[h1] at he;cases he
  | some vs =>
   rw[h1] at he;simp only at he ⊢;cases h2:c.callee with
   | builtin b=>rw[h2] at he;exact .inr (.inr fun _=>he)
   | invoke r nm=>rw[h2] at he;cases he
   | value fo =>
    rw[h2] at he;simp only at he ⊢;cases h3:opV s.env fo with
    | none=>rw[h3] at he;cases he
    | some v =>
     rw[h3] at he;simp only at he ⊢;cases v with
     | clo f cs =>
      simp only at he ⊢;split at he
      ·rename_i hk
       split at he
       ·rename_i hb
        exact .inr (.inl ⟨f,_,_,_,_,he,fun c2 h6=>by rw[if_pos hk,if_pos hb];exact h6⟩)
       ·rename_i hb
        obtain⟨asv,r,h4,h5⟩:=zFm he;exact .inl ⟨f,asv,r,h4,fun c2 h6=>by rw[if_pos hk,if_neg hb];exact h5 c2 h6⟩
      ·cases he
     | _=>cases he
 ·right;right
  intro c2;cases o with
  | call c=>exact absurd ⟨c,rfl⟩ hc
  | makeFunc fn a b=>cases fn<;>exact he
  | slice t x l h m=>cases m<;>exact he
  | _=>exact he
structure Call.le (a b:Call):Prop where
 c:∀f asv r,a f asv=some r->b f asv=some r
 i:∀f vs s id r,a.i f vs s id=some r->b.i f vs s id=some r
theorem Call.le.pick {a b:Call} (h:a.le b) (d:Bool):(a.pick d).le (b.pick d):=by
 cases d with
 | true=>exact⟨fun f v r e=>h.c f v r e,fun f v s i r e=>by cases e⟩
 | false=>exact h
structure Orc.le (a b:Orc):Prop where
 call:a.call.le b.call
 loop:∀fn k s r,a.loop fn k s=some r->b.loop fn k s=some r
section
variable {a b : Orc} {cfg : Cfg}
theorem qNc {a b:Call} (h:a.le b) {id base:Nat} {s:St} {ty:TypeId} {o:Op} {x:V×St} (he:opE a cfg id base s ty o=some x):opE b cfg id base s ty o=some x:=by
 rcases zTw he with⟨f,asv,r,h1,h2⟩|⟨f,vs,s',id',r,h1,h2⟩|h2
 ·exact h2 _ (h.c f asv r h1)
 ·exact h2 _ (h.i f vs s' id' r h1)
 ·exact h2 _
theorem zNe (h:a.le b) {draw:Bool} {all:List Oper} {base:Nat}:∀{rest:List Oper} {i:Nat} {s:St} {tr:List (List (Nat×Acc))} {x:St×List (List (Nat×Acc))},zEg a.call cfg draw all base i rest s tr=some x->zEg b.call cfg draw all base i rest s tr=some x
 | [],i,s,tr,x,he=>he
 | o::r,i,s,tr,x,he=>by
  simp only[zEg] at he ⊢;split at he
  ·cases he
  ·rename_i hg
   try rw[hg]
   try simp only
   split at he
   ·cases he
   ·rename_i y hy
    rw[qNc (h.call.pick draw) hy];exact zNe h he
  ·rename_i hg
   try rw[hg]
   exact zNe h he
theorem zSd (h:a.le b) {ops:List Oper} {draw:Bool} {s:St} {x:St} (he:xN a.call cfg ops draw s=some x):xN b.call cfg ops draw s=some x:=by
 unfold xN at he ⊢;split at he
 ·cases he
 ·rename_i y hy
  rw[zNe h hy];exact he
theorem zYe {c1:Call} {s:St} {f:FuncId} {vs:List V} {v:V} (he:zN7 c1 cfg s f vs=some v):∃asv r,c1 f asv=some r/\∀c2:Call,c2 f asv=some r->zN7 c2 cfg s f vs=some v:=by
 unfold zN7 at he;split at he
 case h_2=>cases he
 rename_i q n
 split at he
 case isFalse=>cases he
 rename_i hm
 split at he
 ·cases he
 rename_i ob hob
 split at he
 case isFalse=>cases he
 rename_i hc
 split at he
 ·cases he
 rename_i ys hys
 split at he
 case h_2=>cases he
 rename_i k n hcall
 refine⟨_,_,hcall,fun c2 h6=>?_⟩;simp only[zN7,if_pos hm,hob,if_pos hc,hys,h6];exact he
theorem qBc {c1:Call} {k id base:Nat} {s:St} {ty:TypeId} {o:Op} {x:V×St} (he:opA c1 cfg k id base s ty o=some x) :
  (∃f asv r,c1 f asv=some r/\∀c2:Call,c2 f asv=some r->opA c2 cfg k id base s ty o=some x)\/(∃f vs s' id' r,c1.i f vs s' id'=some r/\∀c2:Call,c2.i f vs s' id'=some r->opA c2 cfg k id base s ty o=some x)\/∀c2:Call,opA c2 cfg k id base s ty o=some x:=by
 unfold opA at he ⊢;cases hb:opB cfg k id base s o with
 | some r=>rw[hb] at he;exact .inr (.inr fun _=>he)
 | none =>
  rw[hb] at he;simp only at he ⊢;cases hc:zDs s o with
  | some r =>
   rw[hc] at he;simp only at he ⊢;obtain⟨v1,h3,e⟩:=zE he;obtain⟨asv,q,h4,h5⟩:=zYe h3;exact .inl ⟨_,asv,q,h4,fun c2 h6=>by rw[h5 c2 h6,<- e];rfl⟩
  | none =>
   rw[hc] at he;simp only at he ⊢;exact zTw he
theorem qMb {a b:Call} (h:a.le b) {k id base:Nat} {s:St} {ty:TypeId} {o:Op} {x:V×St} (he:opA a cfg k id base s ty o=some x):opA b cfg k id base s ty o=some x:=by
 rcases qBc he with⟨f,asv,r,h1,h2⟩|⟨f,vs,s',id',r,h1,h2⟩|h2
 ·exact h2 _ (h.c f asv r h1)
 ·exact h2 _ (h.i f vs s' id' r h1)
 ·exact h2 _
theorem zOz (h:a.le b) {k:Nat} {all:List Oper} {base:Nat}:∀{rest:List Oper} {s:St} {x:St},zMb a.call cfg k all base rest s=some x->zMb b.call cfg k all base rest s=some x
 | [],s,x,he=>he
 | o::r,s,x,he=>by
  simp only[zMb] at he ⊢;split at he
  ·cases he
  ·rename_i hg
   try rw[hg]
   try simp only
   split at he
   ·cases he
   ·rename_i y hy
    rw[qMb h.call hy];exact zOz h he
  ·rename_i hg
   try rw[hg]
   exact zOz h he
theorem zT4 (h:a.le b) {k:Nat} {ops:List Oper} {draw:Bool} {s:St} {x:St} (he:vR a.call cfg k ops draw s=some x):vR b.call cfg k ops draw s=some x:=by
 unfold vR at he ⊢;split at he
 ·rename_i hk;rw[if_pos hk];exact zSd h he
 ·rename_i hk;rw[if_neg hk]
  split at he
  ·cases he
  ·rename_i hd;rw[if_neg hd];exact zOz h he
theorem yK (h:a.le b) {fn:FuncId}:∀{c:Code} {s:St} {x:Ext×St},jD a cfg fn c s=some x->jD b cfg fn c s=some x
 | .region id ops draw,s,x,he=>by
  simp only[jD] at he ⊢;split at he
  ·cases he
  ·rename_i y hy
   rw[zT4 h hy];exact he
 | .seq p q,s,x,he=>by
  simp only[jD] at he ⊢;split at he
  ·cases he
  ·rename_i y hy
   rw[yK h hy];exact yK h he
  ·rename_i y hne hy
   rw[yK h hy];obtain⟨e,s1⟩:=y;cases e with
   | normal=>exact absurd rfl (hne s1)
   | ret=>exact he
   | exit i=>exact he
 | .cond c p q,s,x,he=>by
  simp only[jD] at he ⊢;split at he
  ·rename_i hc;try rw[hc]
   exact yK h he
  ·rename_i hc;try rw[hc]
   exact yK h he
  ·cases he
 | .block id p,s,x,he=>by
  simp only[jD] at he ⊢;split at he
  ·cases he
  ·rename_i i s1 hy
   rw[yK h hy];exact he
  ·rename_i y hne hy
   rw[yK h hy];obtain⟨e,s1⟩:=y;cases e with
   | normal=>exact he
   | ret=>exact he
   | exit i=>exact absurd rfl (hne i s1)
 | .loop p,s,x,he=>by
  simp only[jD] at he ⊢;exact h.loop _ _ _ _ he
 | .skip,s,x,he=>he
 | .exit _,s,x,he=>he
 | .ret,s,x,he=>he
 | .scope _,s,x,he=>he
 | .rangeFunc ..,s,x,he=>he
 | .label _,s,x,he=>he
 | .goto _,s,x,he=>he
 | .refuse _,s,x,he=>he
theorem zXt (h:a.le b) {fn:FuncId} {k:Nat} {s:St} {x:Ext×St} (he:zGd a cfg fn k s=some x):zGd b cfg fn k s=some x:=by
 unfold zGd at he ⊢;split at he
 ·cases he
 ·split at he
  ·cases he
  ·split at he
   ·cases he
   ·rename_i s1 hy
    rw[yK h hy];exact h.loop _ _ _ _ he
   ·rename_i e s1 hne hy
    rw[yK h hy];cases e with
    | normal=>exact absurd rfl hne
    | ret=>exact he
    | exit i=>exact he
theorem zJw (h:a.le b) {f:FuncId} {args:List V} {x:V×List V} (he:vW a cfg f args=some x):vW b cfg f args=some x:=by
 unfold vW at he ⊢;split at he
 ·cases he
 ·split at he
  ·cases he
  ·split at he
   ·rename_i hn
    rw[if_pos hn];split at he
    ·cases he
    ·rename_i r hy
     rw[yK h hy];exact he
   ·cases he
theorem zFq {a b:Call} (h:a.le b):∀{n:Nat} {fn:FuncId} {k:Nat} {s:St} {x:Ext×St},yA a cfg n fn k s=some x->yA b cfg n fn k s=some x
 | 0,fn,k,s,x,he=>by cases he
 | n+1,fn,k,s,x,he=>by
  simp only[yA] at he ⊢;split at he
  ·cases he
  ·split at he
   ·cases he
   ·split at he
    ·cases he
    ·rename_i s1 hy
     rw[yK (a:=⟨a,yA a cfg n⟩) (b:=⟨b,yA b cfg n⟩) ⟨h,fun _ _ _ _ e=>zFq h e⟩ hy];exact zFq h he
    ·rename_i r hne hy
     rw[yK (a:=⟨a,yA a cfg n⟩) (b:=⟨b,yA b cfg n⟩) ⟨h,fun _ _ _ _ e=>zFq h e⟩ hy];obtain⟨e,s1⟩:=r;cases e with
     | normal=>exact absurd rfl (hne s1)
     | ret=>exact he
     | exit i=>exact he
theorem qG5 {a b:Call} (h:a.le b) {f:FuncId} {args:List V} {s:St} {id:Nat} {x:V×St} (he:zPj a cfg f args s id=some x):zPj b cfg f args s id=some x:=by
 unfold zPj at he ⊢;split at he
 ·cases he
 ·split at he
  ·cases he
  ·split at he
   ·rename_i hn
    rw[if_pos hn];split at he
    ·cases he
    ·rename_i r hy
     rw[yK (a:=⟨a,yA a cfg 6⟩) (b:=⟨b,yA b cfg 6⟩) ⟨h,fun _ _ _ _ e=>zFq h e⟩ hy];exact he
   ·cases he
theorem zYc {c1:Call} {f:FuncId} {vs:List V} {s:St} {id:Nat} {x:V×St} (he:zLp c1 cfg f vs s id=some x):∃asv r,c1 f asv=some r/\∀c2:Call,c2 f asv=some r->zLp c2 cfg f vs s id=some x:=by
 unfold zLp at he;split at he
 ·rename_i o i fs ver n r
  cases ht:s.take o i fs ver n with
  | none=>rw[ht] at he;cases he
  | some a =>
   rw[ht] at he;simp only at he;cases hl:jW (cfg.md f) (.ref (id+32) 0 n::r) (a.2.2.new (id+32) ⟨false,false,a.1,a.2.1,0⟩) with
   | none=>rw[hl] at he;cases he
   | some l =>
    rw[hl] at he;simp only at he;split at he
    ·rename_i hpres
     cases hc:xM c1 cfg (a.2.2.new (id+32) ⟨false,false,a.1,a.2.1,0⟩) id f (.ref (id+32) 0 n::r) with
     | none=>rw[hc] at he;cases he
     | some b =>
      rw[hc] at he;obtain⟨asv,k,h1,h2⟩:=zFm hc;refine⟨asv,k,h1,fun c2 h3=>?_⟩;simp only[zLp,ht,hl,hpres,if_true,h2 c2 h3];exact he
    ·cases he
 ·rename_i hn
  obtain⟨b,hc,e⟩:=zE he;obtain⟨asv,k,h1,h2⟩:=zFm hc;refine⟨asv,k,h1,fun c2 h3=>?_⟩;unfold zLp;split
  ·exact absurd rfl (hn _ _ _ _ _ _)
  ·rw[h2 c2 h3,<- e];rfl
theorem qKb {a b:Call} (h:a.le b) {f:FuncId} {args:List V} {s:St} {id:Nat} {x:V×St} (he:inE a cfg f args s id=some x):inE b cfg f args s id=some x:=by
 unfold inE at he ⊢;split at he
 ·rename_i hp
  rw[if_pos hp];obtain⟨asv,r,h1,h2⟩:=zYc he;exact h2 b (h.c f asv r h1)
 ·rename_i hp
  rw[if_neg hp];exact qG5 h he
theorem zYn (h:a.le b) {f:FuncId} {args:List V} {x:V×List V} (he:zCa a cfg f args=some x):zCa b cfg f args=some x:=by
 unfold zCa at he ⊢;split at he
 ·rename_i hn
  rw[if_pos hn];split at he
  ·split at he
   ·rename_i hx
    rw[if_pos hx];split at he
    ·rename_i heq
     rw[zJw h he,zJw h (heq ▸ he),if_pos rfl]
    ·cases he
   ·rename_i hx
    rw[if_neg hx];exact zJw h he
  ·cases he
 ·rename_i hn
  rw[if_neg hn];obtain⟨y,hy,e⟩:=zE he;rw[zJw h hy,zJ,e]
theorem zYk {ext:Call} (h:a.le b) {f:FuncId} {args:List V} {x:V×List V} (he:zJe ext a cfg f args=some x):zJe ext b cfg f args=some x:=by
 unfold zJe at he ⊢;split at he
 ·exact he
 ·exact zYn h he
end
section
variable {ext : Call} {cfg : Cfg}
theorem zAj:∀n,(xY ext cfg n).le (xY ext cfg (n+1))
 | 0=>⟨⟨fun f asv r h=>(by cases h),fun f vs s id r h=>(by cases h)⟩,fun fn k s r h=>(by cases h)⟩
 | n+1=>⟨⟨fun f asv r h=>zYk (zAj n) h,fun f vs s id r h=>qKb (zAj n).call h⟩,fun fn k s r h=>zXt (zAj n) h⟩
theorem vB {n m:Nat} (h:n<=m):(xY ext cfg n).le (xY ext cfg m):=by
 induction h with
 | refl=>exact⟨⟨fun _ _ _ h=>h,fun _ _ _ _ _ h=>h⟩,fun _ _ _ _ h=>h⟩
 | step h ih=>exact⟨⟨fun f asv r e=>(zAj _).call.c f asv r (ih.call.c f asv r e),fun f vs s id r e=>(zAj _).call.i f vs s id r (ih.call.i f vs s id r e)⟩,fun fn k s r e=>(zAj _).loop fn k s r (ih.loop fn k s r e)⟩
theorem zOe {n:Nat} {f:FuncId} {asv:List V} {r:V×List V} (h:(xY ext cfg n).call f asv=some r):(lim ext cfg).call f asv=some r:=by
 have hx:∃n,((xY ext cfg n).call f asv).isSome=true:=⟨n,by rw[h];rfl⟩;have e:(lim ext cfg).call f asv=(xY ext cfg hx.choose).call f asv:=dif_pos hx;rw[e];obtain⟨r',hr'⟩:=Option.isSome_iff_exists.1 hx.choose_spec;have h1:=(vB (Nat.le_max_left n hx.choose)).call.c f asv r h;have h2:=(vB (Nat.le_max_right n hx.choose)).call.c f asv r' hr';rw[h1] at h2;cases h2;exact hr'
theorem zCw {f:FuncId} {asv:List V} {r:V×List V} (h:(lim ext cfg).call f asv=some r):∃n,(xY ext cfg n).call f asv=some r:=by
 by_cases hx:∃n,((xY ext cfg n).call f asv).isSome=true
 ·have e:(lim ext cfg).call f asv=(xY ext cfg hx.choose).call f asv:=dif_pos hx
  rw[e] at h;exact⟨_,h⟩
 ·have e:(lim ext cfg).call f asv=none:=dif_neg hx
  rw[e] at h;cases h
theorem zRo {n:Nat} {f:FuncId} {vs:List V} {s:St} {id:Nat} {r:V×St} (h:(xY ext cfg n).call.i f vs s id=some r):(lim ext cfg).call.i f vs s id=some r:=by
 have hx:∃n,((xY ext cfg n).call.i f vs s id).isSome=true:=⟨n,by rw[h];rfl⟩;have e:(lim ext cfg).call.i f vs s id=(xY ext cfg hx.choose).call.i f vs s id:=dif_pos hx;rw[e];obtain⟨r',hr'⟩:=Option.isSome_iff_exists.1 hx.choose_spec;have h1:=(vB (Nat.le_max_left n hx.choose)).call.i f vs s id r h;have h2:=(vB (Nat.le_max_right n hx.choose)).call.i f vs s id r' hr';rw[h1] at h2;cases h2;exact hr'
theorem zJ1 {f:FuncId} {vs:List V} {s:St} {id:Nat} {r:V×St} (h:(lim ext cfg).call.i f vs s id=some r):∃n,(xY ext cfg n).call.i f vs s id=some r:=by
 by_cases hx:∃n,((xY ext cfg n).call.i f vs s id).isSome=true
 ·have e:(lim ext cfg).call.i f vs s id=(xY ext cfg hx.choose).call.i f vs s id:=dif_pos hx
  rw[e] at h;exact⟨_,h⟩
 ·have e:(lim ext cfg).call.i f vs s id=none:=dif_neg hx
  rw[e] at h;cases h
theorem zNl {n:Nat} {fn:FuncId} {k:Nat} {s:St} {r:Ext×St} (h:(xY ext cfg n).loop fn k s=some r):(lim ext cfg).loop fn k s=some r:=by
 have hx:∃n,((xY ext cfg n).loop fn k s).isSome=true:=⟨n,by rw[h];rfl⟩;have e:(lim ext cfg).loop fn k s=(xY ext cfg hx.choose).loop fn k s:=dif_pos hx;rw[e];obtain⟨r',hr'⟩:=Option.isSome_iff_exists.1 hx.choose_spec;have h1:=(vB (Nat.le_max_left n hx.choose)).loop fn k s r h;have h2:=(vB (Nat.le_max_right n hx.choose)).loop fn k s r' hr';rw[h1] at h2;cases h2;exact hr'
theorem zGy {fn:FuncId} {k:Nat} {s:St} {r:Ext×St} (h:(lim ext cfg).loop fn k s=some r):∃n,(xY ext cfg n).loop fn k s=some r:=by
 by_cases hx:∃n,((xY ext cfg n).loop fn k s).isSome=true
 ·have e:(lim ext cfg).loop fn k s=(xY ext cfg hx.choose).loop fn k s:=dif_pos hx
  rw[e] at h;exact⟨_,h⟩
 ·have e:(lim ext cfg).loop fn k s=none:=dif_neg hx
  rw[e] at h;cases h
theorem qC4 {d:Bool} {id base:Nat} {s:St} {ty:TypeId} {o:Op} {x:V×St} (he:opE ((lim ext cfg).call.pick d) cfg id base s ty o=some x):∃n,∀m,n<=m->opE ((xY ext cfg m).call.pick d) cfg id base s ty o=some x:=by
 rcases zTw he with⟨f,asv,r,h1,h2⟩|⟨f,vs,s',id',r,h1,h2⟩|h2
 ·have h1':(lim ext cfg).call f asv=some r:=by cases d<;>exact h1
  obtain⟨n,hn⟩:=zCw h1';exact⟨n,fun m hm=>h2 _ (by have:=(vB hm).call.c f asv r hn;cases d<;>exact this)⟩
 ·cases d with
  | true=>cases h1
  | false =>
   obtain⟨n,hn⟩:=zJ1 h1;exact⟨n,fun m hm=>h2 _ ((vB hm).call.i f vs s' id' r hn)⟩
 ·exact⟨0,fun m _=>h2 _⟩
theorem zKi {draw:Bool} {all:List Oper} {base:Nat}:∀{rest:List Oper} {i:Nat} {s:St} {tr:List (List (Nat×Acc))} {x:St×List (List (Nat×Acc))},zEg (lim ext cfg).call cfg draw all base i rest s tr=some x->∃n,∀m,n<=m->zEg (xY ext cfg m).call cfg draw all base i rest s tr=some x
 | [],i,s,tr,x,he=>⟨0,fun _ _=>he⟩
 | o::r,i,s,tr,x,he=>by
  simp only[zEg] at he ⊢;split at he
  ·cases he
  ·rename_i hg
   split at he
   ·cases he
   ·rename_i y hy
    obtain⟨n1,h1⟩:=qC4 hy;obtain⟨n2,h2⟩:=zKi he;refine⟨max n1 n2,fun m hm=>?_⟩
    try rw[hg]
    try simp only
    rw[h1 m (by omega)];exact h2 m (by omega)
  ·rename_i hg
   obtain⟨n2,h2⟩:=zKi he;refine⟨n2,fun m hm=>?_⟩
   try rw[hg]
   exact h2 m hm
theorem zO9 {ops:List Oper} {draw:Bool} {s:St} {x:St} (he:xN (lim ext cfg).call cfg ops draw s=some x):∃n,∀m,n<=m->xN (xY ext cfg m).call cfg ops draw s=some x:=by
 unfold xN at he ⊢;split at he
 ·cases he
 ·rename_i y hy
  obtain⟨n,h1⟩:=zKi hy;exact⟨n,fun m hm=>by rw[h1 m hm];exact he⟩
theorem qCy {k id base:Nat} {s:St} {ty:TypeId} {o:Op} {x:V×St} (he:opA (lim ext cfg).call cfg k id base s ty o=some x):∃n,∀m,n<=m->opA (xY ext cfg m).call cfg k id base s ty o=some x:=by
 rcases qBc he with⟨f,asv,r,h1,h2⟩|⟨f,vs,s',id',r,h1,h2⟩|h2
 ·obtain⟨n,hn⟩:=zCw h1
  exact⟨n,fun m hm=>h2 _ ((vB hm).call.c f asv r hn)⟩
 ·obtain⟨n,hn⟩:=zJ1 h1
  exact⟨n,fun m hm=>h2 _ ((vB hm).call.i f vs s' id' r hn)⟩
 ·exact⟨0,fun m _=>h2 _⟩
theorem zJm {k:Nat} {all:List Oper} {base:Nat}:∀{rest:List Oper} {s:St} {x:St},zMb (lim ext cfg).call cfg k all base rest s=some x->∃n,∀m,n<=m->zMb (xY ext cfg m).call cfg k all base rest s=some x
 | [],s,x,he=>⟨0,fun _ _=>he⟩
 | o::r,s,x,he=>by
  simp only[zMb] at he ⊢;split at he
  ·cases he
  ·rename_i hg
   split at he
   ·cases he
   ·rename_i y hy
    obtain⟨n1,h1⟩:=qCy hy;obtain⟨n2,h2⟩:=zJm he;refine⟨max n1 n2,fun m hm=>?_⟩
    try rw[hg]
    try simp only
    rw[h1 m (by omega)];exact h2 m (by omega)
  ·rename_i hg
   obtain⟨n2,h2⟩:=zJm he;refine⟨n2,fun m hm=>?_⟩
   try rw[hg]
   exact h2 m hm
theorem zNy {k:Nat} {ops:List Oper} {draw:Bool} {s:St} {x:St} (he:vR (lim ext cfg).call cfg k ops draw s=some x):∃n,∀m,n<=m->vR (xY ext cfg m).call cfg k ops draw s=some x:=by
 unfold vR at he ⊢;split at he
 ·rename_i hk
  obtain⟨n,h1⟩:=zO9 he;exact⟨n,fun m hm=>by rw[if_pos hk];exact h1 m hm⟩
 ·rename_i hk
  split at he
  ·cases he
  ·rename_i hd
   obtain⟨n,h1⟩:=zJm he;exact⟨n,fun m hm=>by rw[if_neg hk,if_neg hd];exact h1 m hm⟩
theorem kR {ll:FuncId->Nat->St->Option (Ext×St)} {L:Nat->FuncId->Nat->St->Option (Ext×St)} (hl:∀fn k s r,ll fn k s=some r->∃n,∀m,n<=m->L m fn k s=some r) {fn:FuncId}:∀{c:Code} {s:St} {x:Ext×St},jD ⟨(lim ext cfg).call,ll⟩ cfg fn c s=some x->∃n,∀m,n<=m->jD ⟨(xY ext cfg m).call,L m⟩ cfg fn c s=some x
 | .region id ops draw,s,x,he=>by
  simp only[jD] at he ⊢;split at he
  ·cases he
  ·rename_i y hy
   obtain⟨n,h1⟩:=zNy hy;exact⟨n,fun m hm=>by rw[h1 m hm];exact he⟩
 | .seq p q,s,x,he=>by
  simp only[jD] at he ⊢;split at he
  ·cases he
  ·rename_i y hy
   obtain⟨n1,h1⟩:=kR hl hy;obtain⟨n2,h2⟩:=kR hl he;exact⟨max n1 n2,fun m hm=>by rw[h1 m (by omega)];exact h2 m (by omega)⟩
  ·rename_i y hne hy
   obtain⟨n,h1⟩:=kR hl hy;refine⟨n,fun m hm=>?_⟩;rw[h1 m hm];obtain⟨e,s1⟩:=y;cases e with
   | normal=>exact absurd rfl (hne s1)
   | ret=>exact he
   | exit i=>exact he
 | .cond c p q,s,x,he=>by
  simp only[jD] at he ⊢;split at he
  ·rename_i hc
   obtain⟨n,h1⟩:=kR hl he
   exact⟨n,fun m hm=>by
    try rw[hc]
    exact h1 m hm⟩
  ·rename_i hc
   obtain⟨n,h1⟩:=kR hl he
   exact⟨n,fun m hm=>by
    try rw[hc]
    exact h1 m hm⟩
  ·cases he
 | .block id p,s,x,he=>by
  simp only[jD] at he ⊢;split at he
  ·cases he
  ·rename_i i s1 hy
   obtain⟨n,h1⟩:=kR hl hy;exact⟨n,fun m hm=>by rw[h1 m hm];exact he⟩
  ·rename_i y hne hy
   obtain⟨n,h1⟩:=kR hl hy;refine⟨n,fun m hm=>?_⟩;rw[h1 m hm];obtain⟨e,s1⟩:=y;cases e with
   | normal=>exact he
   | ret=>exact he
   | exit i=>exact absurd rfl (hne i s1)
 | .loop p,s,x,he=>by
  simp only[jD] at he ⊢;exact hl _ _ _ _ he
 | .skip,s,x,he=>⟨0,fun _ _=>he⟩
 | .exit _,s,x,he=>⟨0,fun _ _=>he⟩
 | .ret,s,x,he=>⟨0,fun _ _=>he⟩
 | .scope _,s,x,he=>⟨0,fun _ _=>he⟩
 | .rangeFunc ..,s,x,he=>⟨0,fun _ _=>he⟩
 | .label _,s,x,he=>⟨0,fun _ _=>he⟩
 | .goto _,s,x,he=>⟨0,fun _ _=>he⟩
 | .refuse _,s,x,he=>⟨0,fun _ _=>he⟩
theorem zG0 {fn:FuncId} {c:Code} {s:St} {x:Ext×St} (he:jD (lim ext cfg) cfg fn c s=some x):∃n,∀m,n<=m->jD (xY ext cfg m) cfg fn c s=some x :=
 kR (ll:=(lim ext cfg).loop) (L:=fun m=>(xY ext cfg m).loop) (fun _ _ _ _ h=>by
  obtain⟨n,h1⟩:=zGy h
  exact⟨n,fun m hm=>(vB hm).loop _ _ _ _ h1⟩) he
theorem zDa:∀{d:Nat} {fn:FuncId} {k:Nat} {s:St} {x:Ext×St},yA (lim ext cfg).call cfg d fn k s=some x->∃n,∀m,n<=m->yA (xY ext cfg m).call cfg d fn k s=some x
 | 0,fn,k,s,x,he=>by cases he
 | d+1,fn,k,s,x,he=>by
  simp only[yA] at he ⊢;split at he
  ·cases he
  ·rename_i f hf
   split at he
   ·cases he
   ·rename_i body hb
    split at he
    ·cases he
    ·rename_i s1 hy
     obtain⟨n1,h1⟩:=kR (ll:=yA (lim ext cfg).call cfg d) (L:=fun m=>yA (xY ext cfg m).call cfg d) (fun _ _ _ _ h=>zDa h) hy;obtain⟨n2,h2⟩:=zDa he
     exact⟨max n1 n2,fun m hm=>by
      rw[h1 m (by omega)]
      exact h2 m (by omega)⟩
    ·rename_i r hne hy
     obtain⟨n1,h1⟩:=kR (ll:=yA (lim ext cfg).call cfg d) (L:=fun m=>yA (xY ext cfg m).call cfg d) (fun _ _ _ _ h=>zDa h) hy;refine⟨n1,fun m hm=>?_⟩;rw[h1 m hm];obtain⟨e,s1⟩:=r;cases e with
     | normal=>exact absurd rfl (hne s1)
     | ret=>exact he
     | exit i=>exact he
theorem qEh {f:FuncId} (hp:cfg.plB f=false) {args:List V} {s:St} {id:Nat} {x:V×St} (he:zPj (lim ext cfg).call cfg f args s id=some x):(lim ext cfg).call.i f args s id=some x:=by
 have:∃n,zPj (xY ext cfg n).call cfg f args s id=some x:=by
  unfold zPj at he ⊢;split at he
  ·cases he
  ·split at he
   ·cases he
   ·split at he
    ·rename_i hn
     split at he
     ·cases he
     ·rename_i r hy
      obtain⟨n,h1⟩:=kR (ll:=yA (lim ext cfg).call cfg 6) (L:=fun m=>yA (xY ext cfg m).call cfg 6) (fun _ _ _ _ h=>zDa h) hy;refine⟨n,?_⟩;rw[if_pos hn,h1 n (Nat.le_refl _)];exact he
    ·cases he
 obtain⟨n,hn⟩:=this;exact zRo (n:=n+1) (show inE _ cfg f args s id=_ by unfold inE;rw[if_neg (by rw[hp];simp)];exact hn)
theorem qA4 {fn:FuncId} {k:Nat} {s:St} {x:Ext×St} (he:zGd (lim ext cfg) cfg fn k s=some x):(lim ext cfg).loop fn k s=some x:=by
 have:∃n,zGd (xY ext cfg n) cfg fn k s=some x:=by
  unfold zGd at he ⊢;split at he
  ·cases he
  ·split at he
   ·cases he
   ·split at he
    ·cases he
    ·rename_i s1 hy
     obtain⟨n1,h1⟩:=zG0 hy;obtain⟨n2,h2⟩:=zGy he;refine⟨max n1 n2,?_⟩;rw[h1 _ (by omega)];exact(vB (by omega)).loop _ _ _ _ h2
    ·rename_i e s1 hne hy
     obtain⟨n1,h1⟩:=zG0 hy;refine⟨n1,?_⟩;rw[h1 _ (Nat.le_refl _)];cases e with
     | normal=>exact absurd rfl hne
     | ret=>exact he
     | exit i=>exact he
 obtain⟨n,hn⟩:=this;exact zNl (n:=n+1) hn
theorem zFo {f:FuncId} {args:List V} {x:V×List V} (he:vW (lim ext cfg) cfg f args=some x):∃n,∀m,n<=m->vW (xY ext cfg m) cfg f args=some x:=by
 unfold vW at he ⊢;split at he
 ·cases he
 ·split at he
  ·cases he
  ·split at he
   ·rename_i hn
    split at he
    ·cases he
    ·rename_i r hy
     obtain⟨n,h1⟩:=zG0 hy;refine⟨n,fun m hm=>?_⟩;rw[if_pos hn,h1 m hm];exact he
   ·cases he
theorem zFn {f:FuncId} {args:List V} {x:V×List V} (he:zJe ext (lim ext cfg) cfg f args=some x):(lim ext cfg).call f args=some x:=by
 have:∃n,zJe ext (xY ext cfg n) cfg f args=some x:=by
  unfold zJe at he ⊢;split at he
  ·exact⟨0,he⟩
  ·unfold zCa at he ⊢
   split at he
   ·rename_i hn
    split at he
    ·split at he
     ·rename_i hx
      split at he
      ·rename_i heq
       obtain⟨n1,h1⟩:=zFo he;obtain⟨n2,h2⟩:=zFo (heq ▸ he);refine⟨max n1 n2,?_⟩;rw[if_pos hn]
       try simp only
       rw[if_pos hx,h1 _ (by omega),h2 _ (by omega),if_pos rfl]
      ·cases he
     ·rename_i hx
      obtain⟨n1,h1⟩:=zFo he;refine⟨n1,?_⟩;rw[if_pos hn]
      try simp only
      rw[if_neg hx];exact h1 _ (Nat.le_refl _)
    ·cases he
   ·rename_i hn
    obtain⟨y,hy,e⟩:=zE he;obtain⟨n1,h1⟩:=zFo hy;refine⟨n1,?_⟩;rw[if_neg hn]
    try simp only
    rw[h1 _ (Nat.le_refl _),zJ,e]
 obtain⟨n,hn⟩:=this;exact zOe (n:=n+1) hn
variable {P : Program}
mutual
theorem zBt:∀(x:V),x.half.mention=x.mention
 | .agg xs=>by simp only[V.half,V.mention];exact zD9 xs
 | .tup xs=>by simp only[V.half,V.mention];exact yU xs
 | .int ..=>rfl
 | .bool _=>rfl
 | .str _=>rfl
 | .lst ..=>rfl
 | .emp _=>rfl
 | .ref ..=>rfl
 | .plc ..=>rfl
 | .ptr ..=>rfl
 | .vptr _=>rfl
 | .clo ..=>rfl
 | .iol ..=>rfl
 | .iop _=>rfl
 | .und=>rfl
theorem zD9:∀(xs:List V),V.mentionL (V.halfL xs)=V.mentionL xs
 | []=>rfl
 | x::r=>by simp only[V.halfL,V.mentionL,zBt x,zD9 r]
end
section
variable {h : Hs} {sh : Nat->Prop} {w : World}
mutual
theorem zPx:∀{x:V} {cs:List Value} {f:List Nat},Rel h sh w x cs f->f.Nodup->∃f',f'.Sublist f/\∀sh':Nat->Prop,(∀b,sh b->sh' b)->(∀b∈f,b ∉ f'->sh' b)->Rel h sh' w x.half cs f'
 | .lst own sz xs,cs,f,r,hn=>by
  cases own
  ·have r0:=r
   simp only[Rel,Bool.false_eq_true,if_false] at r0;obtain⟨rfl,_⟩:=r0;refine⟨[],List.Sublist.refl _,fun sh' hs _=>?_⟩;simp only[V.half,Rel,Bool.false_eq_true,if_false] at r ⊢;obtain⟨e0,a,c,e,hc,r⟩:=r;refine⟨trivial,a,c,by rw[e,jB,List.length_map],by rw[jB,List.length_map];exact hc,?_⟩;rcases r with⟨r,r0⟩|⟨b,off,z,ds,ea,hb,hat,hr⟩
   ·subst r;exact .inl ⟨rfl,r0⟩
   ·exact .inr ⟨b,off,z,ds,ea,hs b hb,hat,xK hs hr (fun b hb=>by cases hb)⟩
  ·simp only[Rel,if_true] at r
   rcases r with⟨rfl,rfl,e⟩|⟨b,off,c,ds,fps,e,rfl,hc,hrow,hat,hr⟩
   ·refine⟨[],List.Sublist.refl _,fun sh' hs _=>?_⟩
    simp only[V.half,V.shareL,Rel,if_true];exact .inl ⟨trivial,trivial,e⟩
   ·refine⟨[b],(List.nil_sublist fps).cons_cons b,fun sh' hs hf=>?_⟩
    have hn1:=List.nodup_cons.1 hn;simp only[V.half,Rel,if_true];refine .inr ⟨b,off,c,ds,[],by rw[e,jB,List.length_map],rfl,by rw[jB,List.length_map];exact hc,hrow,hat,xK hs hr (fun b' hb'=>hf b' (List.mem_cons_of_mem _ hb') (fun h1=>?_))⟩;simp only[List.mem_cons,List.not_mem_nil,or_false] at h1;exact hn1.1 (h1 ▸ hb')
 | .agg xs,cs,f,r,hn=>by
  simp only[Rel] at r;obtain⟨f',hs',hr⟩:=zH2 r hn;exact⟨f',hs',fun sh' hs hf=>by simp only[V.half,Rel];exact hr sh' hs hf⟩
 | .int ..,cs,f,r,_=>⟨f,List.Sublist.refl _,fun sh' hs _=>Rel.wide hs r⟩
 | .bool _,cs,f,r,_=>⟨f,List.Sublist.refl _,fun sh' hs _=>Rel.wide hs r⟩
 | .str _,cs,f,r,_=>⟨f,List.Sublist.refl _,fun sh' hs _=>Rel.wide hs r⟩
 | .emp _,cs,f,r,_=>⟨f,List.Sublist.refl _,fun sh' hs _=>Rel.wide hs r⟩
 | .ref ..,cs,f,r,_=>⟨f,List.Sublist.refl _,fun sh' hs _=>Rel.wide hs r⟩
 | .plc ..,cs,f,r,_=>⟨f,List.Sublist.refl _,fun sh' hs _=>Rel.wide hs r⟩
 | .ptr ..,cs,f,r,_=>⟨f,List.Sublist.refl _,fun sh' hs _=>Rel.wide hs r⟩
 | .vptr _,cs,f,r,_=>⟨f,List.Sublist.refl _,fun sh' hs _=>Rel.wide hs r⟩
 | .clo ..,cs,f,r,_=>⟨f,List.Sublist.refl _,fun sh' hs _=>Rel.wide hs r⟩
 | .und,cs,f,r,_=>⟨f,List.Sublist.refl _,fun sh' hs _=>Rel.wide hs r⟩
 | .tup _,cs,f,r,_=>by simp only[Rel] at r
 | .iol ..,cs,f,r,_=>by simp only[Rel] at r
 | .iop _,cs,f,r,_=>by simp only[Rel] at r
theorem zH2:∀{xs:List V} {cs:List Value} {f:List Nat},RelA h sh w xs cs f->f.Nodup->∃f',f'.Sublist f/\∀sh':Nat->Prop,(∀b,sh b->sh' b)->(∀b∈f,b ∉ f'->sh' b)->RelA h sh' w (V.halfL xs) cs f'
 | [],cs,f,r,_=>by
  simp only[RelA] at r;obtain⟨rfl,rfl⟩:=r;exact⟨[],List.Sublist.refl _,fun sh' hs _=>by simp[V.halfL,RelA]⟩
 | x::q,cs,f,r,hn=>by
  simp only[RelA] at r;obtain⟨c1,c2,f1,f2,rfl,rfl,r1,r2⟩:=r;have hn1:=List.nodup_append.1 hn;obtain⟨g1,s1,k1⟩:=zPx r1 hn1.1;obtain⟨g2,s2,k2⟩:=zH2 r2 hn1.2.1;refine⟨g1++g2,s1.append s2,fun sh' hs hf=>?_⟩;simp only[V.halfL,RelA];refine⟨c1,c2,g1,g2,rfl,rfl,k1 sh' hs (fun b hb hb2=>hf b (List.mem_append_left _ hb) (fun hm=>?_)),k2 sh' hs (fun b hb hb2=>hf b (List.mem_append_right _ hb) (fun hm=>?_))⟩
  ·rcases List.mem_append.1 hm with hm|hm
   ·exact hb2 hm
   ·exact hn1.2.2 b hb b (s2.subset hm) rfl
  ·rcases List.mem_append.1 hm with hm|hm
   ·exact hn1.2.2 b (s1.subset hm) b hb rfl
   ·exact hb2 hm
end
theorem zKv {v:V} {x:Value} {f:List Nat} (r:zT8 h sh w v x f) (hn:f.Nodup):∃f',f'.Sublist f/\∀sh':Nat->Prop,(∀b,sh b->sh' b)->(∀b∈f,b ∉ f'->sh' b)->zT8 h sh' w v.half x f':=by
 obtain⟨hm,r⟩:=r;cases v with
 | agg xs =>
  obtain⟨cs,e,r⟩:=r;obtain⟨f',s1,k⟩:=zH2 r hn;exact⟨f',s1,fun sh' hs hf=>⟨by rw[zBt];exact hm,cs,e,k sh' hs hf⟩⟩
 | tup xs=>simp only[Rel] at r
 | lst own sz xs =>
  obtain⟨f',s1,k⟩:=zPx (x:=.lst own sz xs) r hn;exact⟨f',s1,fun sh' hs hf=>⟨by rw[zBt];exact hm,k sh' hs hf⟩⟩
 | _=>exact⟨f,List.Sublist.refl _,fun sh' hs hf=>⟨hm,Rel.wide hs r⟩⟩
theorem zI9 {sh':Nat->Prop} (hs:∀b,sh b->sh' b) {v:V} {x:Value} {f:List Nat} (r:zT8 h sh w v x f) (hf:∀b∈f,sh' b):zT8 h sh' w v.share x []:=by
 obtain⟨hm,r⟩:=r;cases v with
 | agg xs =>
  obtain⟨cs,e,r⟩:=r;exact⟨by rw[xD];exact hm,cs,e,zEt hs r hf⟩
 | tup xs=>simp only[Rel] at r
 | lst own sz xs=>exact⟨by rw[xD];exact hm,jH hs (x:=.lst own sz xs) r hf⟩
 | int k n=>exact⟨hm,jH hs (x:=.int k n) r hf⟩
 | bool b=>exact⟨hm,jH hs (x:=.bool b) r hf⟩
 | str b=>exact⟨hm,jH hs (x:=.str b) r hf⟩
 | emp b=>exact⟨hm,jH hs (x:=.emp b) r hf⟩
 | ref a b c=>exact⟨hm,jH hs (x:=.ref a b c) r hf⟩
 | plc a b c d e=>exact⟨hm,jH hs (x:=.plc a b c d e) r hf⟩
 | ptr a b c=>exact⟨hm,jH hs (x:=.ptr a b c) r hf⟩
 | vptr y=>exact⟨hm,jH hs (x:=.vptr y) r hf⟩
 | clo g cs=>exact⟨hm,jH hs (x:=.clo g cs) r hf⟩
 | und=>exact⟨hm,jH hs (x:=.und) r hf⟩
 | iol a b=>simp only[Rel] at r
 | iop a=>simp only[Rel] at r
theorem zI3 {sh':Nat->Prop} (hs:∀b,sh b->sh' b):∀{vs:List V} {xs:List Value} {f:List Nat},zIx h sh w vs xs f->(∀b∈f,sh' b)->zIx h sh' w (V.shareL vs) xs []
 | [],xs,f,r,_=>by
  simp only[zIx] at r;obtain⟨rfl,rfl⟩:=r;simp[V.shareL,zIx]
 | v::q,xs,f,r,hf=>by
  simp only[zIx] at r;obtain⟨x,p,f1,f2,rfl,rfl,r1,r2⟩:=r;simp only[V.shareL,zIx];exact⟨x,p,[],[],rfl,rfl,zI9 hs r1 (fun b hb=>hf b (List.mem_append_left _ hb)),zI3 hs r2 (fun b hb=>hf b (List.mem_append_right _ hb))⟩
theorem zH1 {v:V} {x:Value} {f:List Nat} (r:zO1 h sh w v x f) (hn:f.Nodup):∃f',f'.Sublist f/\∀sh':Nat->Prop,(∀b,sh b->sh' b)->(∀b∈f,b ∉ f'->sh' b)->zO1 h sh' w v.half x f':=by
 cases v with
 | tup vs =>
  obtain⟨xs,e,r⟩:=r;exact⟨[],List.nil_sublist _,fun sh' hs hf=>⟨xs,e,zI3 hs r (fun b hb=>hf b hb (fun h=>by cases h))⟩⟩
 | agg xs=>exact zKv (v:=.agg xs) r hn
 | lst own sz xs=>exact zKv (v:=.lst own sz xs) r hn
 | _=>exact⟨f,List.Sublist.refl _,fun sh' hs hf=>⟨r.1,Rel.wide hs r.2⟩⟩
theorem zWf {v:V} {x:Value} {f:List Nat} (r:zO1 h sh w v x f) (hn:f.Nodup):∃f',f'.Sublist f/\∀sh':Nat->Prop,(∀b,sh b->sh' b)->(∀b∈f,b ∉ f'->sh' b)->zO1 h sh' w v.full x f':=by
 cases v with
 | lst own sz xs=>exact⟨[],List.nil_sublist _,fun sh' hs hf=>zI9 (v:=.lst own sz xs) hs r (fun b hb=>hf b hb (fun h=>by cases h))⟩
 | tup vs=>exact zH1 (v:=.tup vs) r hn
 | agg xs=>exact zH1 (v:=.agg xs) r hn
 | _=>exact⟨f,List.Sublist.refl _,fun sh' hs hf=>⟨r.1,Rel.wide hs r.2⟩⟩
theorem OutsR.wide {sh':Nat->Prop} (hs:∀b,sh b->sh' b):∀{vs:List V} {xs:List Value} {outs:List V} {f:List Nat},OutsR h sh w vs xs outs f->OutsR h sh' w vs xs outs f
 | [],xs,outs,f,r=>r
 | v::q,xs,outs,f,r=>by
  unfold OutsR at r ⊢;split at r
  ·obtain⟨x,p,ys,o,f1,f2,e1,e2,e3,hm,hx,r⟩:=r
   refine⟨x,p,ys,o,f1,f2,e1,e2,e3,hm,?_,OutsR.wide hs r⟩;rcases hx with hx|⟨b,off,n,c,ds,fps,a1,a2,a3,a4,a5,a6⟩
   ·exact .inl hx
   ·exact .inr ⟨b,off,n,c,ds,fps,a1,a2,a3,a4,a5,RelX.keep (Goes.none (fun b hb=>⟨hs b hb,rfl⟩)) a6 (by rw[hm];intro q hq;cases hq) (fun _ _=>rfl)⟩
  ·obtain⟨x,p,y,o,f1,f2,e1,e2,e3,hm,⟨b,off,ds,fps,a1,a2,a3,a4,a5⟩,r⟩:=r
   exact⟨x,p,y,o,f1,f2,e1,e2,e3,hm,⟨b,off,ds,fps,a1,a2,a3,a4,Rel.wide hs a5⟩,OutsR.wide hs r⟩
  ·obtain⟨x,p,e1,r⟩:=r
   exact⟨x,p,e1,OutsR.wide hs r⟩
theorem Left.half {fps:List Nat} {args:List V} {reals:List Value} {v:V} {outs:List V} {x:Value} {w':World} {h':Hs} {sh':Nat->Prop} {fr fo:List Nat} (L:Left h sh w fps args reals v outs x w' h' sh' fr fo) :
  ∃sh2 fr2,Left h sh w fps args reals v.half outs x w' h' sh2 fr2 fo:=by
 have hn:=List.nodup_append.1 L.nd;obtain⟨fr2,s1,k⟩:=zH1 L.ret hn.1;refine⟨fun b=>sh' b\/b∈fr/\b ∉ fr2,fr2,?_⟩;have hw:∀b,sh' b->sh' b\/b∈fr/\b ∉ fr2:=fun b hb=>.inl hb
 refine⟨k _ hw (fun b hb hb2=>.inr ⟨hb,hb2⟩),OutsR.wide hw L.out,List.nodup_append.2 ⟨s1.nodup hn.1,hn.2.1,fun a ha b hb=>hn.2.2 a (s1.subset ha) b hb⟩,?_,L.size,L.old,fun b hb=>.inl (L.shs b hb),?_⟩
 ·intro b hb
  have hb':b∈fr++fo:=by
   rcases List.mem_append.1 hb with hb|hb
   ·exact List.mem_append_left _ (s1.subset hb)
   ·exact List.mem_append_right _ hb
  obtain⟨o1,o2,o3⟩:=L.own b hb';refine⟨o1,o2,fun hs=>?_⟩;rcases hs with hs|⟨hs1,hs2⟩
  ·exact o3 hs
  ·rcases List.mem_append.1 hb with hb|hb
   ·exact hs2 hb
   ·exact hn.2.2 b hs1 b hb rfl
 ·intro b hb
  rcases hb with hb|⟨hb,_⟩
  ·exact L.shn b hb
  ·obtain⟨o1,o2,_⟩:=L.own b (List.mem_append_left _ hb)
   exact⟨o1,.inr o2⟩
theorem Left.full {fps:List Nat} {args:List V} {reals:List Value} {v:V} {outs:List V} {x:Value} {w':World} {h':Hs} {sh':Nat->Prop} {fr fo:List Nat} (L:Left h sh w fps args reals v outs x w' h' sh' fr fo) :
  ∃sh2 fr2,Left h sh w fps args reals v.full outs x w' h' sh2 fr2 fo:=by
 have hn:=List.nodup_append.1 L.nd;obtain⟨fr2,s1,k⟩:=zWf L.ret hn.1;refine⟨fun b=>sh' b\/b∈fr/\b ∉ fr2,fr2,?_⟩;have hw:∀b,sh' b->sh' b\/b∈fr/\b ∉ fr2:=fun b hb=>.inl hb
 refine⟨k _ hw (fun b hb hb2=>.inr ⟨hb,hb2⟩),OutsR.wide hw L.out,List.nodup_append.2 ⟨s1.nodup hn.1,hn.2.1,fun a ha b hb=>hn.2.2 a (s1.subset ha) b hb⟩,?_,L.size,L.old,fun b hb=>.inl (L.shs b hb),?_⟩
 ·intro b hb
  have hb':b∈fr++fo:=by
   rcases List.mem_append.1 hb with hb|hb
   ·exact List.mem_append_left _ (s1.subset hb)
   ·exact List.mem_append_right _ hb
  obtain⟨o1,o2,o3⟩:=L.own b hb';refine⟨o1,o2,fun hs=>?_⟩;rcases hs with hs|⟨hs1,hs2⟩
  ·exact o3 hs
  ·rcases List.mem_append.1 hb with hb|hb
   ·exact hs2 hb
   ·exact hn.2.2 b hs1 b hb rfl
 ·intro b hb
  rcases hb with hb|⟨hb,_⟩
  ·exact L.shn b hb
  ·obtain⟨o1,o2,_⟩:=L.own b (List.mem_append_left _ hb)
   exact⟨o1,.inr o2⟩
end
theorem zSs {orc:Orc} (C:CfgOK P cfg) (B:CodeOKs cfg) (O:OrcOK P cfg orc) (D:zDw P cfg orc.call):jP P ⟨zCa orc cfg,fun _ _ _ _=>none⟩:=by
 intro f args v outs he0;have he:zCa orc cfg f args=some (v,outs):=he0;unfold zCa at he;split at he
 ·split at he
  ·rename_i sz xs
   split at he
   ·rename_i hx
    split at he
    ·rename_i heq
     have hx':xs=[]:=by simpa using hx
     subst hx';obtain⟨h1,h2⟩:=zDi C B O D he;obtain⟨_,h3⟩:=zDi C B O D (heq ▸ he);refine⟨h1,fun h sh w reals fps hA hnd hok hsh=>?_⟩;simp only[ArgsR] at hA;obtain⟨x,q,f1,f2,rfl,rfl,r1,rfl,rfl⟩:=hA;obtain⟨rfl,hm,_,_,r1⟩:=r1;simp only[RelS,RelS0,Rel,Bool.false_eq_true,if_false,List.cons.injEq,and_true,true_and] at r1;obtain⟨ad,c,rfl,_,hcc⟩:=r1
     have hc0:ad=none->c=0:=by
      rcases hcc with hcc|⟨_,_,_,_,e,_⟩
      ·exact hcc
      ·rw[e];intro e;cases e
     have conv:∀b:Bool,∀e w',qJr h sh w ([]++[]) [.emp b] [.slice ad 0 c] v outs e w'->qJr h sh w ([]++[]) [.lst false sz []] [.slice ad 0 c] v outs e w':=by
      rintro b e w' ⟨x,e1,h',sh',fr,fo,L⟩;exact⟨x,e1,h',sh',fr,fo,⟨L.ret,L.out,L.nd,L.own,L.size,L.old,L.shs,L.shn⟩⟩
     have arg:∀b:Bool,ad.isNone=b->ArgsR h sh w [.emp b] [.slice ad 0 c] ([]++[]):=by
      intro b hb;exact⟨.slice ad 0 c,[],[],[],rfl,rfl,⟨rfl,rfl,by simp,rfl,by simp only[RelS,RelS0,Rel];exact⟨trivial,ad,c,rfl,hb,hc0⟩⟩,rfl,rfl⟩
     cases hb:ad.isNone with
     | true=>exact(h2 h sh w _ _ (arg true hb) hnd hok hsh).mono (conv true)
     | false=>exact(h3 h sh w _ _ (arg false hb) hnd hok hsh).mono (conv false)
    ·cases he
   ·exact zDi C B O D he
  ·cases he
 ·obtain⟨y,hy,e⟩:=zE he
  have hs:vW orc cfg f args=some (y.1,y.2):=hy;obtain⟨h1,h2⟩:=zDi C B O D hs;simp only[Prod.mk.injEq] at e;obtain⟨e1,rfl⟩:=e;split at e1
  ·split at e1
   ·subst e1
    refine⟨h1,fun h sh w reals fps hA hnd hok hsh=>(h2 h sh w reals fps hA hnd hok hsh).mono ?_⟩;rintro en w' ⟨x,e0,h',sh',fr,fo,L⟩;obtain⟨sh2,fr2,L2⟩:=L.full;exact⟨x,e0,h',sh2,fr2,fo,L2⟩
   ·subst e1
    refine⟨h1,fun h sh w reals fps hA hnd hok hsh=>(h2 h sh w reals fps hA hnd hok hsh).mono ?_⟩;rintro en w' ⟨x,e0,h',sh',fr,fo,L⟩;obtain⟨sh2,fr2,L2⟩:=L.half;exact⟨x,e0,h',sh2,fr2,fo,L2⟩
  ·subst e1
   exact⟨h1,h2⟩
theorem zIi (C:CfgOK P cfg) (B:CodeOKs cfg) (E:jP P ext) (D:∀call,jP P call->zDw P cfg call):∀n,OrcOK P cfg (xY ext cfg n)
 | 0=>⟨fun f args v outs he=>(by cases he),fun f vs s id v s' he=>(by cases he),fun fn k s r he=>(by cases he)⟩
 | n+1=>by
  have ih:=zIi C B E D n;have hd:=D _ ih.call
  refine⟨fun f args v outs he=>?_,fun f vs s id v s' he=>(by
   have he':inE (xY ext cfg n).call cfg f vs s id=some (v,s'):=he;unfold inE at he';split at he'
   ·exact zT5 ih.call f vs s id v s' he'
   ·exact zV8 C B ih.call ih.inl hd f vs s id v s' he'),fun fn k s r he func full body hf hb hk F a w hF hn hnp I=>zRz C B ih hd he hf hb hk hF hn hnp I⟩
  have he':zJe ext (xY ext cfg n) cfg f args=some (v,outs):=he;unfold zJe at he';split at he'
  ·rename_i r hr
   exact E f args v outs (hr.trans he')
  ·exact zSs C B ih hd f args v outs he'
theorem zUo (C:CfgOK P cfg) (B:CodeOKs cfg) (E:jP P ext) (D:∀call,jP P call->zDw P cfg call):jP P (lim ext cfg).call:=by
 intro f args v outs he;obtain⟨n,hn⟩:=zCw he;exact(zIi C B E D n).call f args v outs hn
end
end Go.Proofs.YtbcgenkegnmkhaaGreat.Ev
