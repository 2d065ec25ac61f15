/- Part 6 of the proof that the law named in the last part returns true at every argument: an evaluator of the program, shown sound, and its runs. No further conditions. -/
import Derived.Test.YtbcgenkegnmkhaaGreatMLh805
namespace Go.Proofs.YtbcgenkegnmkhaaGreat.Ev
open Go
set_option maxRecDepth 100000
set_option linter.unusedSimpArgs false
set_option linter.unusedVariables false
set_option maxHeartbeats 2000000
theorem l_spS (pl:List Nd) (z:List Et) (P:List (List Et)) (W i:Nat) (rds:List Int) (m sd node sf ep:Int) (hW:P.length=W) (hw3:W<=3) (hPl:∀p∈P,p.length<2000000):∀x:Nat×(List Fr)×(List Int),(x.1<=W/\x.2.1.length+W<1000+x.1/\x.2.2.length+W<1000+x.1)->∀s,zH 6 (some [0,1,2,3,4,5,14,15,16,17,18,19,20,21]) s=⟨[(0,.lst false 0 (nds false 0 pl)),(1,.int .i64 node),(2,.int .i64 W),(3,.int .i64 sf),(4,.lst false 0 (ets false z)),(5,.int .i64 ep),(14,.ref 6 0 x.2.1.length),(15,.ref 7 0 x.2.2.length),(16,.ref 8 0 rds.length),(17,.int .i64 i),(18,.int .i64 m),(19,.int .i64 sd),(20,.ref 9 0 W),(21,.int .i64 x.1)],[(6,⟨false,false,6,frs true x.2.1,0⟩),(7,⟨false,false,1,ints x.2.2,0⟩),(8,⟨false,false,1,ints rds,0⟩),(9,⟨false,false,1,ovP x.1 P,0⟩)],10⟩ ->
 oc.loop 50 14 s=some (.exit 4,⟨[(0,.lst false 0 (nds false 0 pl)),(1,.int .i64 node),(2,.int .i64 W),(3,.int .i64 sf),(4,.lst false 0 (ets false z)),(5,.int .i64 ep),(14,.ref 6 0 (x.2.1++jG m sd ep (P.drop x.1)).length),(15,.ref 7 0 (x.2.2++vK x.1 (P.drop x.1)).length),(16,.ref 8 0 rds.length),(17,.int .i64 i),(18,.int .i64 m),(19,.int .i64 sd)],[(6,⟨false,false,6,frs true (x.2.1++jG m sd ep (P.drop x.1)),0⟩),(7,⟨false,false,1,ints (x.2.2++vK x.1 (P.drop x.1)),0⟩),(8,⟨false,false,1,ints rds,0⟩)],9⟩):=by
 refine zV (σ:=Nat×(List Fr)×(List Int)) (fun x=>W - x.1) _ (fun x=>⟨[(0,.lst false 0 (nds false 0 pl)),(1,.int .i64 node),(2,.int .i64 W),(3,.int .i64 sf),(4,.lst false 0 (ets false z)),(5,.int .i64 ep),(14,.ref 6 0 x.2.1.length),(15,.ref 7 0 x.2.2.length),(16,.ref 8 0 rds.length),(17,.int .i64 i),(18,.int .i64 m),(19,.int .i64 sd),(20,.ref 9 0 W),(21,.int .i64 x.1)],[(6,⟨false,false,6,frs true x.2.1,0⟩),(7,⟨false,false,1,ints x.2.2,0⟩),(8,⟨false,false,1,ints rds,0⟩),(9,⟨false,false,1,ovP x.1 P,0⟩)],10⟩) _ ?_;rintro⟨k,L,G⟩ hi ih s hs;simp only at hi;refine qD cd50 rfl rfl hs ?_;obtain⟨hi1,hi2,hi3⟩:=hi;refine wa_ (wa_ (zB (wM (h:=wM (h:=w_ (b_ (h:=nE (h:=zA ?_))))))));refine c_ (h1:=?_) (h2:=?_)
 rotate_right 1
 focus
  intro c1;first|exact dn c1|(
   have d1:=c1;try simp at d1
   refine zW ?_)
 rotate_right 1
 focus
  intro c1;first|exact dn c1|(
   have d1:=c1;try simp at d1
   have hw:=zU (i:=k) (by omega);obtain⟨p,hx,e1,_⟩:=zAn (t:=true) (l:=P) (i:=k) (by omega);have g1:=zOt hx;have hpl:=hPl p (List.mem_of_getElem? hx);refine zC ?_)
 all_goals first|refine zR ?_|(
  refine zA ?_;refine wa_ (zG (wa_ (zB (wM (h:=wM (h:=w_ (x_ (h:=w_ (l_ (h:=w_ (le (h:=w_ (b_ (h:=nE (h:=zA ?_)))))))))))))));refine c_ (h1:=?_) (h2:=?_)
  rotate_right 1
  focus
   intro c2;first|exact dn c2|(
    have d2:=c2;try simp at d2
    have hpe:p=[]:=(by cases p with|nil=>rfl|cons y r=>simp at c2);subst hpe;have hsame:=zQs hx;refine zC ?_)
  rotate_right 1
  focus
   intro c2;first|exact dn c2|(
    have d2:=c2;try simp at d2
    have hpn:p≠[]:=(by intro e;subst e;simp at c2);have hcut:=zTm hx hpn;refine wa_ (zB (wM (h:=wM (h:=wM (h:=wM (h:=wM (h:=wM (h:=w_ (x_ (h:=w_ (l_ (h:=w_ (bd (h:=w_ ?_))))))))))))));refine bs (hf:=by(simp[g1];rfl)) (h:=?_);refine w_ (ap (h:=W3 (h:=nE (h:=zA (zB (wM (h:=wM (h:=w_ (bs (h:=w_ (ap (h:=W3 (h:=nE (h:=?_)))))))))))))))
  all_goals refine zI ?_
  all_goals first
  | (
   refine zA ?_;refine zB (wM (h:=w_ (b_ (h:=W3 (h:=nE (h:=?_))))))))
 all_goals first
 | (refine(ih ((k+1,L++[⟨1,m,sd,ep,p,[]⟩],G++[(k:Int)])) (⟨by simp only;omega,by simp;omega,by simp;omega⟩) ?_ _ ?_).trans ?_;(focus (first|omega|(simp;done)|(simp;omega)));(focus (simp[zH,hw,hcut,zLe];done));(focus (rw[e1,zBm hpn,zOl hpn];simp)))
 | (refine(ih ((k+1,L,G)) (⟨by simp only;omega,by simp only;omega,by simp only;omega⟩) ?_ _ ?_).trans ?_;(focus (first|omega|(simp;done)|(simp;omega)));(focus (simp[zH,hw,hsame];done));(focus (rw[e1,zBi,zNm])))
 | (apply zP (ex:=(Ext.exit 4)) 6 (some [0,1,2,3,4,5,14,15,16,17,18,19]);(focus (simp[zH];rfl));(focus (obtain rfl:k=P.length:=(by omega);simp[jG,vK])))
theorem zRw (d:Nd):((qB d).length:Int)=if d.op=1 then 0 else if d.op=4\/d.op=6 then 2 else 1:=by unfold qB;split<;>(try split)<;>simp
theorem zTd {d:Nd} {j:Nat} {x:Int} (h:(qB d)[j]? = some x):(if(j:Int)=1 then d.b else d.a)=x:=by
 unfold qB at h;split at h
 ·simp at h
 ·split at h
  ·match j with
   | 0=>simpa using h
   | 1=>simpa using h
   | j+2=>simp at h
  ·match j with
   | 0=>simpa using h
   | j+1=>simp at h
theorem l_sdS (pl:List Nd) (z:List Et) (W i:Nat) (rds:List Int) (m node sf ep:Int) (d:Nd) (hd:(nds false 0 pl)[m.toNat]? = some (d.v false 0)) (hm0:0<=m) (hdc:d.cells.length<2000000) (hp:pl.length<2000000) (hk:okN pl) (hc:jU pl m W sf=0) (hz:jY z<2000000) (h1:zEb z (zEk pl m)=false) (hm:0<W) (hw3:W<=3):∀x:Nat×(List Fr)×(List Int),(x.1<=(qB d).length/\x.2.1.length+10 * (qB d).length<500+10 * x.1/\x.2.2.length+10 * (qB d).length<500+10 * x.1)->∀s,zH 6 (some [0,1,2,3,4,5,14,15,16,17,18,19]) s=⟨[(0,.lst false 0 (nds false 0 pl)),(1,.int .i64 node),(2,.int .i64 W),(3,.int .i64 sf),(4,.lst false 0 (ets false z)),(5,.int .i64 ep),(14,.ref 6 0 x.2.1.length),(15,.ref 7 0 x.2.2.length),(16,.ref 8 0 rds.length),(17,.int .i64 i),(18,.int .i64 m),(19,.int .i64 x.1)],[(6,⟨false,false,6,frs true x.2.1,0⟩),(7,⟨false,false,1,ints x.2.2,0⟩),(8,⟨false,false,1,ints rds,0⟩)],9⟩ ->
 oc.loop 50 9 s=some (.exit 2,⟨[(0,.lst false 0 (nds false 0 pl)),(1,.int .i64 node),(2,.int .i64 W),(3,.int .i64 sf),(4,.lst false 0 (ets false z)),(5,.int .i64 ep),(14,.ref 6 0 (x.2.1++(qQ pl node W sf ep z m x.1 ((qB d).drop x.1)).1).length),(15,.ref 7 0 (x.2.2++(qQ pl node W sf ep z m x.1 ((qB d).drop x.1)).2).length),(16,.ref 8 0 rds.length),(17,.int .i64 i)],[(6,⟨false,false,6,frs true (x.2.1++(qQ pl node W sf ep z m x.1 ((qB d).drop x.1)).1),0⟩),(7,⟨false,false,1,ints (x.2.2++(qQ pl node W sf ep z m x.1 ((qB d).drop x.1)).2),0⟩),(8,⟨false,false,1,ints rds,0⟩)],9⟩):=by
 refine zV (σ:=Nat×(List Fr)×(List Int)) (fun x=>(qB d).length - x.1) _ (fun x=>⟨[(0,.lst false 0 (nds false 0 pl)),(1,.int .i64 node),(2,.int .i64 W),(3,.int .i64 sf),(4,.lst false 0 (ets false z)),(5,.int .i64 ep),(14,.ref 6 0 x.2.1.length),(15,.ref 7 0 x.2.2.length),(16,.ref 8 0 rds.length),(17,.int .i64 i),(18,.int .i64 m),(19,.int .i64 x.1)],[(6,⟨false,false,6,frs true x.2.1,0⟩),(7,⟨false,false,1,ints x.2.2,0⟩),(8,⟨false,false,1,ints rds,0⟩)],9⟩) _ ?_;rintro⟨j,L,G⟩ hi ih s hs;simp only at hi;refine qD cd50 rfl rfl hs ?_;obtain⟨hi1,hi2,hi3⟩:=hi;have hPl:∀p∈zDj pl W sf z m,p.length<2000000:=fun p hp=>by have h2:=zG4 (zC1 hp);have h3:=kY (l:=p);omega
 have hf:=zAx m j ep (zDj pl W sf z m);have hg:=zE2 0 (zDj pl W sf z m);have hpl:=zNx (pl:=pl) (W:=W) (sf:=sf) (z:=z) (m:=m);rw[hpl] at hf hg;have hnum:=zRw d;have hl2:=zAh d;refine wa_ (wa_ (zB (wM (h:=wM (h:=wM (h:=w_ (x_ (h:=w_ (f_ (h:=w_ (l_ (h:=w_ (ca (hc:=zAc d.op) (h:=w_ (b_ (h:=nE (h:=?_)))))))))))))))));refine zA ?_;refine c_ (h1:=?_) (h2:=?_)
 rotate_right 1
 focus
  intro c1;first|exact dn c1|(
   have d1:=c1;try simp at d1
   have hje:j=(qB d).length:=(by rw[<-hnum] at c1;simp at c1;omega);refine zW ?_)
 rotate_right 1
 focus
  intro c1;first|exact dn c1|(
   have d1:=c1;try simp at d1
   have hjl:j<(qB d).length:=(by rw[<-hnum] at c1;simp at c1;omega);have hw:=zU (i:=j) (by omega);obtain⟨x,hx,e1,_⟩:=kJ (l:=qB d) (i:=j) hjl;have hxx:=zTd hx;refine zC ?_)
 all_goals first|refine zR ?_|(
  refine zA ?_;refine wa_ (zG (wa_ (wa_ (zB (wM (h:=wM (h:=w_ (x_ (h:=w_ (l_ (h:=wM (h:=w_ (ca (hc:=zYj d j) (h:=wM (h:=?_)))))))))))))));refine w_ (bE (h:=nE (h:=zA ?_)));refine c_ (h1:=?_) (h2:=?_)
  rotate_right 1
  focus
   intro c2;first|exact dn c2|(
    have d2:=c2;try simp at d2
    refine zC ?_)
  rotate_right 1
  focus
   intro c2;first|exact dn c2|(
    have d2:=c2;try simp at d2
    refine zW ?_)
  all_goals first|refine zR ?_|(
   refine zA ?_;refine wa_ (zB (wM (h:=wM (h:=wM (h:=wM (h:=wM (h:=w_ (ca (hc:=qIi pl m sf z W hp hk hc hz hm (by omega) h1) (h:=W3 (h:=nE (h:=zA (wa_ ?_))))))))))));refine zB (W3 (h:=nE (h:=zA (zG ?_))));refine qH (l_spS pl z (zDj pl W sf z m) W i rds m j node sf ep hpl hw3 hPl (0,L,G) ⟨by omega,by simp only;omega,by simp only;omega⟩ _ (by simp[zH,zDj])) ?_;refine zS ?_)
  all_goals first|refine zI ?_|refine zS ?_
  all_goals first
  | (
   refine zA ?_;refine zB (wM (h:=w_ (b_ (h:=W3 (h:=nE (h:=?_))))))))
 all_goals first
 | (refine(ih ((j+1,L++jG m j ep (zDj pl W sf z m),G++vK 0 (zDj pl W sf z m))) (⟨by simp only;omega,by simp;omega,by simp;omega⟩) ?_ _ ?_).trans ?_;(focus (first|omega|(simp;done)|(simp;omega)));(focus (simp[zH,hw];done));(focus (rw[hxx] at c2;rw[e1,zAv (by simpa using c2)];simp)))
 | (refine(ih ((j+1,L,G)) (⟨by simp only;omega,by simp only;omega,by simp only;omega⟩) ?_ _ ?_).trans ?_;(focus (first|omega|(simp;done)|(simp;omega)));(focus (simp[zH,hw];done));(focus (rw[hxx] at c2;rw[e1,zAu (by simpa using c2)])))
 | (apply zP (ex:=(Ext.exit 2)) 6 (some [0,1,2,3,4,5,14,15,16,17]);(focus (simp[zH];rfl));(focus (subst hje;simp[qQ])))
theorem l_rdS (pl:List Nd) (z:List Et) (W:Nat) (rds:List Int) (node sf ep:Int) (hp:pl.length<2000000) (hk:okN pl) (hn:(yD pl).2=0) (hz:jY z<2000000) (hr:∀m∈rds,zEb z (zEk pl m)=false/\0<=m/\m<pl.length) (hm:0<W) (hw3:W<=3) (hs:0<=sf/\sf<W) (hrl:rds.length<=8):∀x:Nat×(List Fr)×(List Int),(x.1<=rds.length/\x.2.1.length+10 * rds.length<200+10 * x.1/\x.2.2.length+10 * rds.length<200+10 * x.1)->∀s,zH 6 (some [0,1,2,3,4,5,14,15,16,17]) s=⟨[(0,.lst false 0 (nds false 0 pl)),(1,.int .i64 node),(2,.int .i64 W),(3,.int .i64 sf),(4,.lst false 0 (ets false z)),(5,.int .i64 ep),(14,.ref 6 0 x.2.1.length),(15,.ref 7 0 x.2.2.length),(16,.ref 8 0 rds.length),(17,.int .i64 x.1)],[(6,⟨false,false,6,frs true x.2.1,0⟩),(7,⟨false,false,1,ints x.2.2,0⟩),(8,⟨false,false,1,ints rds,0⟩)],9⟩ ->
 oc.loop 50 5 s=some (.exit 0,⟨[(14,.ref 6 0 (x.2.1++(qW pl node W sf ep z (rds.drop x.1)).1).length),(15,.ref 7 0 (x.2.2++(qW pl node W sf ep z (rds.drop x.1)).2).length)],[(6,⟨false,false,6,frs true (x.2.1++(qW pl node W sf ep z (rds.drop x.1)).1),0⟩),(7,⟨false,false,1,ints (x.2.2++(qW pl node W sf ep z (rds.drop x.1)).2),0⟩)],8⟩):=by
 refine zV (σ:=Nat×(List Fr)×(List Int)) (fun x=>rds.length - x.1) _ (fun x=>⟨[(0,.lst false 0 (nds false 0 pl)),(1,.int .i64 node),(2,.int .i64 W),(3,.int .i64 sf),(4,.lst false 0 (ets false z)),(5,.int .i64 ep),(14,.ref 6 0 x.2.1.length),(15,.ref 7 0 x.2.2.length),(16,.ref 8 0 rds.length),(17,.int .i64 x.1)],[(6,⟨false,false,6,frs true x.2.1,0⟩),(7,⟨false,false,1,ints x.2.2,0⟩),(8,⟨false,false,1,ints rds,0⟩)],9⟩) _ ?_;rintro⟨i,L,G⟩ hi ih s hs;simp only at hi;refine qD cd50 rfl rfl hs ?_;obtain⟨hi1,hi2,hi3⟩:=hi;refine wa_ (wa_ (zB (wM (h:=wM (h:=w_ (le (h:=w_ (b_ (h:=nE (h:=zA ?_))))))))));refine c_ (h1:=?_) (h2:=?_)
 rotate_right 1
 focus
  intro c1;first|exact dn c1|(
   have d1:=c1;try simp at d1
   refine zW ?_)
 rotate_right 1
 focus
  intro c1;first|exact dn c1|(
   have d1:=c1;try simp at d1
   have hw:=zU (i:=i) (by omega);obtain⟨m,hx,e1,g1⟩:=kJ (l:=rds) (i:=i) (by omega);obtain⟨h1,hm0,hm1⟩:=hr m (List.mem_of_getElem? hx);have hpm:pl[m.toNat]? = some (xH pl m):=(by unfold xH;rw[List.getElem?_eq_getElem (show m.toNat<pl.length by omega)];rfl);have hdl:=zBb (t:=false) (s:=0) hpm;have hdc:=hk _ (List.mem_of_getElem? hpm);have hcm:jU pl m W sf=0:=(by unfold jU zAm;rw[if_pos hn,if_pos (by simp[inI];omega)];rw[if_pos ⟨by simp[inI];omega,by simp[inI];omega⟩]);have hrs:=zAh (xH pl m);have hsl:=zC3 (pl:=pl) (node:=node) (W:=W) (sf:=sf) (ep:=ep) (z:=z) (m:=m) (r:=qB (xH pl m)) (s:=0);have hw6:W * (qB (xH pl m)).length<=3 * 2:=Nat.mul_le_mul hw3 hrs;refine zC ?_)
 all_goals first|refine zR ?_|(
  refine zA ?_;refine wa_ (zG (wa_ (zB (wM (h:=wM (h:=w_ (x_ (h:=w_ (l_ (h:=W3 (h:=nE (h:=zA (wa_ ?_)))))))))))));refine zB (W3 (h:=nE (h:=zA (zG ?_))));refine qH (l_sdS pl z W i rds m node sf ep (xH pl m) hdl hm0 hdc hp hk hcm hz h1 hm hw3 (0,L,G) ⟨by omega,by simp only;omega,by simp only;omega⟩ _ (by simp[zH])) ?_;refine zS (zI (zA (zB (wM (h:=w_ (b_ (h:=W3 (h:=nE (h:=?_))))))))))
 all_goals first
 | (refine(ih ((i+1,L++(qQ pl node W sf ep z m 0 (qB (xH pl m))).1,G++(qQ pl node W sf ep z m 0 (qB (xH pl m))).2)) (⟨by simp only;omega,by simp;omega,by simp;omega⟩) ?_ _ ?_).trans ?_;(focus (first|omega|(simp;done)|(simp;omega)));(focus (simp[zH,hw];done));(focus (rw[e1];simp[qW])))
 | (apply zP (ex:=(Ext.exit 0)) 6 (some [14,15]);(focus (simp[zH];rfl));(focus (obtain rfl:i=rds.length:=(by omega);simp[qW])))
theorem qE8 (pl:List Nd) (node:Int) (W:Nat) (sf:Int) (z:List Et) (ep:Int) (hp:pl.length<2000000) (hk:okN pl) (hn:(yD pl).2=0) (hz:jY z<2000000) (hzw:∀e∈z,(e.row.length:Int)=at0 (jT pl) node) (hm:0<W) (hw3:W<=3) (hs:0<=sf/\sf<W):oc.call 50 [.lst false 0 (nds false 0 pl),.int .i64 node,.int .i64 W,.int .i64 sf,.lst false 0 (ets false z),.int .i64 ep]=some (.tup [.lst true 6 (frs true (qW pl node W sf ep z (qJ node 0 pl)).1),.lst true 1 (ints (qW pl node W sf ep z (qJ node 0 pl)).2)],[]):=by
 refine qA rfl cd50 rfl rfl rfl (by simp;rfl) (by simp;rfl) ?_;have hr:∀m∈qJ node 0 pl,zEb z (zEk pl m)=false/\0<=m/\m<pl.length:=fun m hm=>zGq hk hn hm hzw
 have hrl:(qJ node 0 pl).length<=8:=by have h1:=zAe (a:=node) (l:=pl) (i:=0);have h2:=(jA hk hn).2.2.2.2;omega
 refine wa_ (zB (w_ (aN (h:=w_ (aN (h:=nE (h:=zA (wa_ (zB (w_ (bs (h:=W3 (h:=nE (h:=zA ?_))))))))))))));refine wa_ (zB (w_ (bs (h:=W3 (h:=nE (h:=zA (wa_ (zB (wM (h:=wM (h:=w_ (ca (hc:=zRq pl node hp hk) (h:=W3 (h:=?_))))))))))))));refine nE (h:=zA (wa_ (wa_ (zB (W3 (h:=nE (h:=zA (zG ?_))))))));refine qH (l_rdS pl z W (qJ node 0 pl) node sf ep hp hk hn hz hr hm hw3 hs hrl (0,[],[]) ⟨by omega,by simp;omega,by simp;omega⟩ _ (by simp[zH])) ?_;refine zS (zA (wa_ (zB (wM (h:=wM (h:=W3 (h:=W3 (h:=nE (h:=zA (zF ?_))))))))))
 all_goals (refine qX (hr:=(zL rfl (zL rfl zM))) (h:=?_);(focus (simp)))
def zP4 (pl:List Nd) (node m sf:Int) (z:List Et) (ep:Int):Int:=if jU pl node m sf=0 then(if inI ep 0 1000=true then zOr z (at0 (jT pl) node) else 3) else jU pl node m sf
def zHz (pl:List Nd) (node m sf:Int) (z:List Et) (ep:Int):Int×List Fr×List Int:=if zP4 pl node m sf z ep=0 then(0,qW pl node m.toNat sf ep z (qJ node 0 pl)) else(zP4 pl node m sf z ep,[],[])
@[simp] abbrev ouV (r:Int×List Fr×List Int):V:=.agg [.int .i64 r.1,.lst true 6 (frs true r.2.1),.lst true 1 (ints r.2.2)]
@[simp] abbrev ouF (r:Int×List Fr×List Int):V:=.agg [.int .i64 r.1,.lst false 0 (frs false r.2.1),.lst false 0 (ints r.2.2)]
theorem zA7 {pl:List Nd} {node m sf:Int} {z:List Et} {ep:Int} (h:zP4 pl node m sf z ep=0):jU pl node m sf=0/\inI ep 0 1000=true/\zOr z (at0 (jT pl) node)=0:=by
 unfold zP4 at h;split at h
 ·split at h
  ·exact⟨‹_›,‹_›,h⟩
  ·cases h
 ·exact absurd h ‹_›
theorem zUn {pl:List Nd} (hk:okN pl) (hn:(yD pl).2=0) {node:Int} {W:Nat} (hW:W<=3) {sf ep:Int} {z:List Et}:(qW pl node W sf ep z (qJ node 0 pl)).1.length<=48/\(qW pl node W sf ep z (qJ node 0 pl)).2.length<=48:=by
 have h1:=zAe (a:=node) (l:=pl) (i:=0);have h2:=(jA hk hn).2.2.2.2;have h3:=zIy (pl:=pl) (node:=node) (sf:=sf) (ep:=ep) (z:=z) hW (r:=qJ node 0 pl);omega
theorem qKg (pl:List Nd) (node m sf:Int) (z:List Et) (ep:Int) (hp:pl.length<2000000) (hk:okN pl) (hz:jY z<2000000):vW oc cf 9 [.lst false 0 (nds false 0 pl),.int .i64 node,.int .i64 m,.int .i64 sf,.lst false 0 (ets false z),.int .i64 ep]=some (ouV (zHz pl node m sf z ep),[]):=by
 refine zCx cd9 rfl rfl rfl (by first|(simp;rfl)|rfl) (by first|(simp;rfl)|rfl) ?_;have hzl:=kY (l:=z);refine wa_ (zB (w_ (al (h:=nE (h:=zA (wa_ (zB (wM (h:=wM (h:=wM (h:=wM (h:=w_ (ca (hc:=zPo pl node m sf hp hk) (h:=?_))))))))))))));refine wM (h:=w_ (ex (h:=w_ (ex (h:=W3 (h:=W3 (h:=nE (h:=zA (wa_ (wa_ (zB (wM (h:=w_ (bE (h:=?_)))))))))))))));refine wM (h:=?_);refine gw_ (h1:=?_) (h2:=?_)
 rotate_right 1
 focus
  intro c1;first|exact dn c1|(
   have d1:=c1;try simp at d1
   refine go_ (h:=go_ (h:=go_ (h:=?_))))
 rotate_right 1
 focus
  intro c1;first|exact dn c1|(
   have d1:=c1;try simp at d1
   refine g_ (h:=wM (h:=g_ (h:=w_ (ca (hc:=zFp _ _ _) (h:=g_ (h:=w_ (u_ (h:=?_)))))))))
 all_goals
  refine w_ (pk (h:=nE (h:=?_)))
 all_goals first
 | (
  refine zA ?_;refine c_ (h1:=?_) (h2:=?_)
  rotate_right 1
  focus
   intro c2;first|exact dn c2|(
    have d2:=c2;try simp at d2
    refine zC ?_)
  rotate_right 1
  focus
   intro c2;first|exact dn c2|(
    have d2:=c2;try simp at d2
    refine zB (W3 (h:=nE (h:=?_)))))
 all_goals first
 | (
  refine zA ?_;refine wa_ (wa_ (zB (wM (h:=w_ (bE (h:=nE (h:=zA ?_)))))));refine c_ (h1:=?_) (h2:=?_)
  rotate_right 1
  focus
   intro c3;first|exact dn c3|(
    have d3:=c3;try simp at d3
    refine zC ?_)
  rotate_right 1
  focus
   intro c3;first|exact dn c3|(
    have d3:=c3;try simp at d3
    have hnz:=jR (jJ d3).1;have hgl:=(jA hk hnz.1).2.1;have g1:=yC (w:=jT pl) hnz.2.1 (by rw[hgl];exact hnz.2.2);refine zB (wM (h:=wM (h:=wM (h:=w_ (x_ (h:=w_ (l_ (h:=w_ (ca (hc:=qB0 z _ hz) (h:=W3 (h:=nE (h:=?_)))))))))))))
  all_goals first
  | (
   refine zA ?_;refine wa_ (wa_ (zB (wM (h:=w_ (bE (h:=nE (h:=zA ?_)))))));refine c_ (h1:=?_) (h2:=?_)
   rotate_right 1
   focus
    intro c4;first|exact dn c4|(
     have d4:=c4;try simp at d4
     have hout:zP4 pl node m sf z ep=0:=(by unfold zP4;rw[if_pos d3,if_pos (by simpa using d2)];simpa using d4);have hmm:1<=m/\m<=3/\0<=sf/\sf<m:=(by have:=jJ d3;omega);obtain⟨W,rfl⟩:∃W:Nat,m=W:=⟨m.toNat,by omega⟩;refine zC ?_)
   rotate_right 1
   focus
    intro c4;first|exact dn c4|(
     have d4:=c4;try simp at d4
     refine wa_ (zB (wM (h:=w_ (bd (h:=w0 (s_ (h:=nE (h:=zA (zF ?_))))))))))
   all_goals first|refine zK ?_|(
    refine zA ?_;refine wa_ (zB (wM (h:=wM (h:=wM (h:=wM (h:=wM (h:=wM (h:=wM (h:=w_ (ca (hc:=qEt pl node W sf z ep hp hk hnz.1 hz (zC6 (zA7 hout).2.2) (by omega) (by omega) (by omega)) (h:=wM (h:=w_ (ex (h:=?_))))))))))))));refine w_ (ex (h:=W3 (h:=W3 (h:=nE (h:=zA (wa_ (zB (wM (h:=wM (h:=w_ (bd (h:=w0 (s_ (h:=nE (h:=?_)))))))))))))));refine zA (zF ?_))))
 all_goals (refine qX (hr:=(vY (tys_ok.zero _ _ rfl) rfl (by simp;rfl) (by rfl) zM)) (h:=?_);(focus (clear hk;first|(simp[zHz,hout];done)|(simp[zHz,zP4, *];done))))
theorem qKe (pl:List Nd) (node m sf:Int) (z:List Et) (ep:Int) (hp:pl.length<2000000) (hk:okN pl) (hz:jY z<2000000):oc.call 10 [.lst false 0 (nds false 0 pl),.int .i64 node,.int .i64 m,.int .i64 sf,.lst false 0 (ets false z),.int .i64 ep]=some (ouV (zHz pl node m sf z ep),[]):=by
 refine qA rfl cd10 rfl rfl rfl (by simp;rfl) (by simp;rfl) ?_;have hzl:=kY (l:=z);refine wa_ (zB (w_ (al (h:=nE (h:=zA (wa_ (wa_ (zB (wM (h:=wM (h:=wM (h:=wM (h:=?_)))))))))))));refine w_ (ca (hc:=zXm pl node m sf hp hk) (h:=W3 (h:=nE (h:=zA (wa_ (zB (wM (h:=w_ (bE (h:=nE (h:=zA ?_)))))))))));refine c_ (h1:=?_) (h2:=?_)
 rotate_right 1
 focus
  intro c1;first|exact dn c1|(
   have d1:=c1;try simp at d1
   have hnz:=jR (jJ d1).1;have hgl:=(jA hk hnz.1).2.1;refine zC ?_)
 rotate_right 1
 focus
  intro c1;first|exact dn c1|(
   have d1:=c1;try simp at d1
   refine wa_ (zB (wM (h:=w_ (bd (h:=w0 (s_ (h:=nE (h:=zA (zF ?_))))))))))
 all_goals first|refine zK ?_|(
  refine zA ?_;refine wa_ (wa_ (zB (wM (h:=w_ (ca (hc:=xW _ _ _) (h:=w_ (u_ (h:=nE (h:=zA ?_)))))))));refine c_ (h1:=?_) (h2:=?_)
  rotate_right 1
  focus
   intro c2;first|exact dn c2|(
    have d2:=c2;try simp at d2
    refine zC ?_)
  rotate_right 1
  focus
   intro c2;first|exact dn c2|(
    have d2:=c2;try simp at d2
    refine wa_ (zB (w_ (bd (h:=w0 (s_ (h:=nE (h:=zA (zF ?_)))))))))
  all_goals first|refine zK ?_|(
   refine zA ?_;refine wa_ (wa_ (zB (wM (h:=wM (h:=wM (h:=w_ (ca (hc:=xR pl (jT pl) hp (jA hk hnz.1).1 node hnz.2.1 (by rw[hgl];exact hnz.2.2)) (h:=w_ (ca (hc:=qIb z _ hz) (h:=W3 (h:=nE (h:=zA (wa_ ?_)))))))))))));refine zB (wM (h:=w_ (bE (h:=nE (h:=zA ?_)))));refine c_ (h1:=?_) (h2:=?_)
   rotate_right 1
   focus
    intro c3;first|exact dn c3|(
     have d3:=c3;try simp at d3
     have hout:zP4 pl node m sf z ep=0:=(by unfold zP4;rw[if_pos d1,if_pos (by simpa using d2)];simpa using d3);have hmm:1<=m/\m<=3/\0<=sf/\sf<m:=(by have:=jJ d1;omega);obtain⟨W,rfl⟩:∃W:Nat,m=W:=⟨m.toNat,by omega⟩;refine zC ?_)
   rotate_right 1
   focus
    intro c3;first|exact dn c3|(
     have d3:=c3;try simp at d3
     refine wa_ (zB (wM (h:=w_ (bd (h:=w0 (s_ (h:=nE (h:=zA (zF ?_))))))))))
   all_goals first|refine zK ?_|(
    refine zA ?_;refine wa_ (zB (wM (h:=wM (h:=wM (h:=wM (h:=wM (h:=wM (h:=w_ (ca (hc:=qE8 pl node W sf z ep hp hk hnz.1 hz (zC6 (zA7 hout).2.2) (by omega) (by omega) (by omega)) (h:=wM (h:=w_ (ex (h:=w_ (ex (h:=?_)))))))))))))));refine W3 (h:=W3 (h:=nE (h:=zA (wa_ (zB (wM (h:=wM (h:=w_ (bd (h:=w0 (s_ (h:=nE (h:=zA ?_)))))))))))));refine zF ?_)))
 all_goals (refine qX (hr:=(vY (tys_ok.zero _ _ rfl) rfl (by simp;rfl) (by rfl) zM)) (h:=?_);(focus (clear hk;first|(simp[zHz,hout];done)|(simp[zHz,zP4, *];done))))
theorem zX1 {pl:List Nd} (hk:okN pl) {node m sf:Int} {z:List Et} {ep:Int} (h:zP4 pl node m sf z ep=0):z.length<=200/\jY z<=1000:=by
 obtain⟨h1,h2,h3⟩:=zA7 h;have hnz:=jR (jJ h1).1;obtain⟨g1,g2,g3,g4⟩:=jA hk hnz.1;have hw:=g3 node.toNat (by omega);rw[Int.toNat_of_nonneg hnz.2.1] at hw;have hrow:=zC6 h3
 have hl:z.length<=200:=by
  unfold zOr at h3;split at h3
  ·rename_i hs
   unfold zFh at hs;split at hs
   ·cases hs
   ·omega
  ·exact absurd h3 ‹_›
 have hw2:wS zS1 z<=z.length * 4:=qBf (fun e he=>by have:=hrow e he;unfold zS1;omega);unfold jY;omega
end Go.Proofs.YtbcgenkegnmkhaaGreat.Ev
namespace Go.Proofs.YtbcgenkegnmkhaaGreat.Ev
open Go
set_option maxRecDepth 100000
set_option linter.unusedSimpArgs false
set_option linter.unusedVariables false
set_option maxHeartbeats 2000000
abbrev etZ:V:=.agg [.lst true 1 [],.int .i64 0]
theorem zX4 (e:List (Nat×V)) (o:List (Nat×Ob)) (k:Int) (hk:0<k) (hk2:k<2000000):oc.call.i 130 [.emp true,.int .i64 k] ⟨e,o,33⟩ 33=some (.ref 609 0 0,⟨e,(609,⟨false,false,2,List.replicate k.toNat etZ,0⟩)::o,833⟩):=by
 have h0:IntKind.i64.wrap (0 - 0)=0:=by decide
 have hw:IntKind.i64.wrap (k - IntKind.i64.wrap (0 - 0))=k:=by rw[h0,Int.sub_zero];exact qL (by omega) (by omega)
 apply zTk (by rw[zRr];rfl) qIv rfl rfl (by simp;rfl);refine wa_ (zB (w_ (aN (h:=nE (h:=zA (wa_ (wa_ (zB (wM (h:=w_ (b_ (h:=nE (h:=zA ?_)))))))))))));refine c_ (h1:=?_) (h2:=?_)
 rotate_right 1
 focus
  intro c1;first|exact dn c1|(
   have d1:=c1;try simp at d1
   refine zC ?_)
 rotate_right 1
 focus
  intro c1;first|exact dn c1|(
   have d1:=c1;try simp at d1
   exfalso;omega)
 all_goals first
 | (
  refine zA ?_;refine wa_ (wa_ (zB (wM (h:=wM (h:=w_ (cc (h:=wM (h:=w_ (le (h:=w_ (b_ (h:=w_ (b_ (h:=W3 (h:=nE (h:=?_))))))))))))))));refine zA (wa_ (zB (wM (h:=w_ (b_ (h:=nE (h:=zA ?_)))))));refine c_ (h1:=?_) (h2:=?_)
  rotate_right 1
  focus
   intro c2;first|exact dn c2|(
    have d2:=c2;try simp at d2
    exfalso;rw[hw] at c2;simp at c2;omega)
  rotate_right 1
  focus
   intro c2;first|exact dn c2|(
    have d2:=c2;try simp at d2
    refine zB (wM (h:=wM (h:=w_ (cc (h:=w_ (sl (h:=wM (h:=w_ ?_))))))));simp only[hw];refine apZ (h:=?_);refine wM (h:=w_ (le (h:=w_ (sl (h:=W3 (h:=nE (h:=?_))))))))
  all_goals first
  | (
   refine zA ?_;refine wa_ (zB (wM (h:=W3 (h:=nE (h:=zA (zF ?_))))))))
 all_goals (exact⟨by simp,_,rfl,rfl,rfl⟩)
theorem zL5 (e:List (Nat×V)) (o:List (Nat×Ob)):oc.call.i 130 [.emp true,.int .i64 0] ⟨e,o,33⟩ 33=some (.emp true,⟨e,o,513⟩):=by
 have h0:IntKind.i64.wrap (0 - 0)=0:=by decide
 have hw:IntKind.i64.wrap (0 - IntKind.i64.wrap (0 - 0))=0:=by rw[h0];decide
 apply zTk (by rw[zRr];rfl) qIv rfl rfl (by simp;rfl);refine wa_ (zB (w_ (aN (h:=nE (h:=zA (wa_ (wa_ (zB (wM (h:=w_ (b_ (h:=nE (h:=zA ?_)))))))))))));refine c_ (h1:=?_) (h2:=?_)
 rotate_right 1
 focus
  intro c1;first|exact dn c1|(
   have d1:=c1;try simp at d1
   refine zC ?_)
 rotate_right 1
 focus
  intro c1;first|exact dn c1|(
   have d1:=c1;try simp at d1
   exfalso;omega)
 all_goals first
 | (
  refine zA ?_;refine wa_ (wa_ (zB (wM (h:=wM (h:=w_ (cc (h:=wM (h:=w_ (le (h:=w_ (b_ (h:=w_ (b_ (h:=W3 (h:=nE (h:=?_))))))))))))))));refine zA (wa_ (zB (wM (h:=w_ (b_ (h:=nE (h:=zA ?_)))))));refine c_ (h1:=?_) (h2:=?_)
  rotate_right 1
  focus
   intro c2;first|exact dn c2|(
    have d2:=c2;try simp at d2
    refine zC ?_)
  rotate_right 1
  focus
   intro c2;first|exact dn c2|(
    have d2:=c2;try simp at d2
    exfalso;rw[hw] at c2;simp at c2)
  all_goals first
  | (
   refine zA ?_;refine wa_ (zB (wM (h:=W3 (h:=nE (h:=zA (zF ?_))))))))
 all_goals (exact⟨by simp,_,rfl,rfl,rfl⟩)
theorem zXb {α:Type} {f:α->Nat} {l:List α} {i:Nat} {x:α} (h:l[i]? = some x):wS f (l.take (i+1))=wS f (l.take i)+f x:=by
 induction l generalizing i with
 | nil=>simp at h
 | cons y r ih =>
  cases i with
  | zero=>simp at h;subst h;simp
  | succ i=>simp at h;simp only[List.take_succ_cons,zBw];rw[ih h];omega
theorem zVz {α:Type} {f:α->Nat} {l:List α} {i:Nat}:wS f (l.take i)<=wS f l:=by
 induction l generalizing i with
 | nil=>simp
 | cons y r ih =>
  cases i with
  | zero=>simp
  | succ i=>have:=ih (i:=i);simp only[List.take_succ_cons,zBw];omega
def yN (l:List (List Et)):Nat:=wS List.length l
theorem zDf {l:List (List Et)} {i:Nat} {x:List Et} (h:l[i]? = some x):yN (l.take (i+1))=yN (l.take i)+x.length:=zXb h
theorem zAf {l:List (List Et)} {i:Nat}:yN (l.take i)<=yN l:=zVz
theorem lenS_flatT {l:List (List Et)}:l.flatten.length=yN l:=by
 induction l with
 | nil=>rfl
 | cons x r ih=>simp only[List.flatten_cons,List.length_append,ih,yN,zBw]
theorem zGa {l:List (List Et)} {i:Nat} {x:List Et} (h:l[i]? = some x):(l.take (i+1)).flatten=(l.take i).flatten++x:=by
 rw[List.take_add_one,h];simp
theorem zJa (ls:List (List Et)) (hl:ls.length<2000000) (hs0:yN ls<2000000):∀i:Nat,(i<=ls.length)->∀s,zH 1 (some [0,3,9,10,11]) s=⟨[(0,.lst false 0 (yG false ls)),(3,.int .i64 (yN (ls.take i):Nat)),(9,.lst false 0 (yG false ls)),(10,.int .i64 ls.length),(11,.int .i64 i)],[],1⟩ ->
 oc.loop 61 3 s=some (.exit 0,⟨[(0,.lst false 0 (yG false ls)),(3,.int .i64 (yN ls:Nat))],[],1⟩):=by
 refine zV (σ:=Nat) (fun i=>ls.length - i) _ (fun i=>⟨[(0,.lst false 0 (yG false ls)),(3,.int .i64 (yN (ls.take i):Nat)),(9,.lst false 0 (yG false ls)),(10,.int .i64 ls.length),(11,.int .i64 i)],[],1⟩) _ ?_;intro i hi ih s hs;refine qD qAk rfl rfl hs ?_;refine wa_ (zB (w_ (b_ (h:=nE (h:=zA (wa_ ?_))))));refine c_ (h1:=?_) (h2:=?_)
 rotate_right 1
 focus
  intro c1;first|exact dn c1|(
   have d1:=c1;try simp at d1
   refine zW ?_)
 rotate_right 1
 focus
  intro c1;first|exact dn c1|(
   have d1:=c1;try simp at d1
   have hw:=zU (i:=i) (by omega);obtain⟨c,hx,e1,g1⟩:=zAn (t:=false) (l:=ls) (i:=i) (by omega);have hcut:=zDf hx;have hle:=zAf (l:=ls) (i:=i+1);have hws:IntKind.i64.wrap ((yN (ls.take i):Nat)+(c.length:Int))=(yN (ls.take (i+1)):Nat):=(qL (by omega) (by omega)).trans (by omega);refine zC ?_)
 all_goals first|refine zR ?_|(
  refine zA ?_;refine wa_ (zG (wa_ (zB (w_ (x_ (h:=w_ (l_ (h:=W3 (h:=nE (h:=zA (wa_ (zB (wM (h:=?_))))))))))))));refine wM (h:=w_ (le (h:=w_ (b_ (h:=W3 (h:=nE (h:=zA (wa_ (zB (wM (h:=w_ (b_ (h:=nE (h:=zA ?_))))))))))))));refine c_ (h1:=?_) (h2:=?_)
  rotate_right 1
  focus
   intro c2;first|exact dn c2|(
    have d2:=c2;try simp at d2
    refine zC ?_)
  rotate_right 1
  focus
   intro c2;first|exact dn c2|(
    have d2:=c2;try simp at d2
    exfalso;clear ih hs;omega)
  all_goals refine zI ?_
  all_goals first
  | (
   refine zA ?_;refine zB (w_ (b_ (h:=wM (h:=nE (h:=?_)))))))
 all_goals first
 | (refine(ih (i+1) (by omega) ?_ _ ?_).trans ?_;(focus (first|omega|(simp;done)|(simp;omega)));(focus (simp[zH,hw,hws];done));(focus (rfl)))
 | (apply zP (ex:=(Ext.exit 0)) 1 (some [0,3]);(focus (simp[zH];rfl));(focus (rw[List.take_of_length_le (by omega)])))
theorem qAe (ls:List (List Et)) (hl:ls.length<2000000) (hs0:yN ls<2000000):∀i:Nat,(i<=ls.length)->∀s,zH 1 (some [6,25,26,27]) s=⟨[(6,.ref 1 0 (yN (ls.take i))),(25,.lst false 0 (yG false ls)),(26,.int .i64 ls.length),(27,.int .i64 i)],[(1,⟨false,false,2,ets false (ls.take i).flatten,0⟩)],2⟩ ->
 oc.loop 61 11 s=some (.exit 2,⟨[(6,.ref 1 0 (yN ls))],[(1,⟨false,false,2,ets false ls.flatten,0⟩)],2⟩):=by
 refine zV (σ:=Nat) (fun i=>ls.length - i) _ (fun i=>⟨[(6,.ref 1 0 (yN (ls.take i))),(25,.lst false 0 (yG false ls)),(26,.int .i64 ls.length),(27,.int .i64 i)],[(1,⟨false,false,2,ets false (ls.take i).flatten,0⟩)],2⟩) _ ?_;intro i hi ih s hs;refine qD qAk rfl rfl hs ?_;have hT:=zAf (l:=ls) (i:=i)
 generalize hF:(ls.take i).flatten=F
 have hN:yN (ls.take i)=F.length:=by rw[<-hF];exact lenS_flatT.symm
 rw[hN] at hT ⊢;refine wa_ (zB (w_ (b_ (h:=nE (h:=zA (wa_ ?_))))));refine c_ (h1:=?_) (h2:=?_)
 rotate_right 1
 focus
  intro c1;first|exact dn c1|(
   have d1:=c1;try simp at d1
   refine zW ?_)
 rotate_right 1
 focus
  intro c1;first|exact dn c1|(
   have d1:=c1;try simp at d1
   have hw:=zU (i:=i) (by omega);obtain⟨c,hx,e1,g1⟩:=zAn (t:=false) (l:=ls) (i:=i) (by omega);have hcut:=zDf hx;rw[hN] at hcut;have hle:=zAf (l:=ls) (i:=i+1);have hfl:=zGa hx;rw[hF] at hfl;refine zC ?_)
 all_goals first|refine zR ?_|(
  refine zA ?_;refine wa_ (zG (wa_ (zB (w_ (x_ (h:=w_ (l_ (h:=W3 (h:=nE (h:=zA (zB (wM (h:=wM (h:=?_))))))))))))));refine w_ (ap (h:=W3 (h:=nE (h:=zI (zA (zB (w_ (b_ (h:=wM (h:=nE (h:=?_))))))))))))
 all_goals first
 | (refine(ih (i+1) (by omega) ?_ _ ?_).trans ?_;(focus (first|omega|(simp;done)|(simp;omega)));(focus (simp[zH,hw,hcut,hfl];done));(focus (rfl)))
 | (apply zP (ex:=(Ext.exit 2)) 1 (some [6]);(focus (simp[zH];rfl));(focus (rw[List.take_of_length_le (by omega)] at hF hN;subst hF;simp[hN])))
theorem zZc (ls:List (List Et)) (hl:ls.length<2000000) (hs0:yN ls<2000000) (hne:0<ls.length) (L:List Et) (hL:ls.flatten=L):∀s,zH 1 (some [6,25,26,27]) s=⟨[(6,.emp true),(25,.lst false 0 (yG false ls)),(26,.int .i64 ls.length),(27,.int .i64 0)],[],1⟩->oc.loop 61 11 s=some (.exit 2,⟨[(6,.ref 1 0 L.length)],[(1,⟨false,false,2,ets false L,0⟩)],2⟩):=by
 intro s hs;obtain⟨c,hx,e1,g1⟩:=zAn (t:=false) (l:=ls) (i:=0) hne;change (yG false ls)[(0:Int).toNat]? = _ at g1;have hcut:=zDf hx;have hfl:=zGa hx;have hle:=zAf (l:=ls) (i:=0+1);have hw:IntKind.i64.wrap (0+1)=1:=by decide
 have hw1:IntKind.i64.wrap 1=1:=by decide
 have hcl:c.length<2000000:=by omega
 simp[yN] at hcut hfl;refine qD qAk rfl rfl hs ?_;refine wa_ (zB (w_ (b_ (h:=nE (h:=zA (wa_ ?_))))));refine c_ (h1:=?_) (h2:=?_)
 rotate_right 1
 focus
  intro c1;first|exact dn c1|(
   have d1:=c1;try simp at d1
   exfalso;rw[decide_eq_false_iff_not] at c1;omega)
 rotate_right 1
 focus
  intro c1;first|exact dn c1|(
   have d1:=c1;try simp at d1
   refine zC ?_)
 all_goals first|refine zR ?_|(
  refine zA ?_;refine wa_ (zG (wa_ (zB (w_ (x_ (h:=w_ (l_ (h:=W3 (h:=nE (h:=zA (zB (wM (h:=wM (h:=?_))))))))))))));refine w_ (ap (h:=W3 (h:=nE (h:=zI (zA (zB (w_ (b_ (h:=wM (h:=nE (h:=?_))))))))))))
 all_goals (refine(qAe ls hl hs0 1 (by omega) _ ?_).trans (by rw[<-lenS_flatT,hL]);(simp[zH,hw,hw1,yN,hcut,hfl];done))
theorem qA0 (ls:List (List Et)) (k:Nat) (hl:ls.length<2000000) (hs0:yN ls<2000000) (hne:0<ls.length) (L:List Et) (hL:ls.flatten=L):∀s,zH 1 (some [6,25,26,27]) s=⟨[(6,.ref 1 0 0),(25,.lst false 0 (yG false ls)),(26,.int .i64 ls.length),(27,.int .i64 0)],[(1,⟨false,false,2,List.replicate k etZ,0⟩)],2⟩->oc.loop 61 11 s=some (.exit 2,⟨[(6,.ref 1 0 L.length)],[(1,⟨false,false,2,ets false L,0⟩)],2⟩):=by
 intro s hs;obtain⟨c,hx,e1,g1⟩:=zAn (t:=false) (l:=ls) (i:=0) hne;change (yG false ls)[(0:Int).toNat]? = _ at g1;have hcut:=zDf hx;have hfl:=zGa hx;have hle:=zAf (l:=ls) (i:=0+1);have hw:IntKind.i64.wrap (0+1)=1:=by decide
 have hw1:IntKind.i64.wrap 1=1:=by decide
 have hcl:c.length<2000000:=by omega
 simp[yN] at hcut hfl;refine qD qAk rfl rfl hs ?_;refine wa_ (zB (w_ (b_ (h:=nE (h:=zA (wa_ ?_))))));refine c_ (h1:=?_) (h2:=?_)
 rotate_right 1
 focus
  intro c1;first|exact dn c1|(
   have d1:=c1;try simp at d1
   exfalso;rw[decide_eq_false_iff_not] at c1;omega)
 rotate_right 1
 focus
  intro c1;first|exact dn c1|(
   have d1:=c1;try simp at d1
   refine zC ?_)
 all_goals first|refine zR ?_|(
  refine zA ?_;refine wa_ (zG (wa_ (zB (w_ (x_ (h:=w_ (l_ (h:=W3 (h:=nE (h:=zA (zB (wM (h:=wM (h:=?_))))))))))))));refine w_ (ap (h:=W3 (h:=nE (h:=zI (zA (zB (w_ (b_ (h:=wM (h:=nE (h:=?_))))))))))))
 all_goals (refine(qAe ls hl hs0 1 (by omega) _ ?_).trans (by rw[<-lenS_flatT,hL]);(simp[zH,hw,hw1,yN,hcut,hfl];done))
theorem qKp (ls:List (List Et)) (hl:ls.length<2000000) (hs0:yN ls<2000000) (hne:0<ls.length):oc.call 61 [.lst false 0 (yG false ls)]=some (.lst true 2 (ets false ls.flatten),[]):=by
 obtain⟨L,hL⟩:∃L,ls.flatten=L:=⟨_,rfl⟩;rw[hL];rcases Nat.eq_zero_or_pos (yN ls) with hz|hz
 ·refine qA rfl qAk rfl rfl rfl (by simp;rfl) (by simp;rfl) ?_
  refine wa_ (zB (w_ (aN (h:=nE (h:=zA (wa_ (zB (W3 (h:=nE (h:=zA (wa_ (wa_ ?_))))))))))));refine zB (wM (h:=w_ (le (h:=wM (h:=nE (h:=zA (zG ?_)))))));refine qH (zJa ls hl hs0 0 (by omega) _ (by simp[zH,yN])) ?_;refine zS (zA (wa_ (zB (wM (h:=?_)))))
  first|refine i_ (hc:=(by simp only[hz];exact zL5 _ _)) (h:=?_)
  refine W3 (h:=nE (h:=zA (wa_ (wa_ (zB (wM (h:=w_ (le (h:=wM (h:=nE (h:=zA (zG ?_))))))))))));refine qH (zZc ls hl hs0 hne L hL _ (by simp[zH])) ?_;refine zS (zA (wa_ (zB (wM (h:=W3 (h:=nE (h:=zA (zF ?_))))))))
  all_goals (refine qX (hr:=(zL rfl zM)) (h:=?_);(focus (simp)))
 ·refine qA rfl qAk rfl rfl rfl (by simp;rfl) (by simp;rfl) ?_
  refine wa_ (zB (w_ (aN (h:=nE (h:=zA (wa_ (zB (W3 (h:=nE (h:=zA (wa_ (wa_ ?_))))))))))));refine zB (wM (h:=w_ (le (h:=wM (h:=nE (h:=zA (zG ?_)))))));refine qH (zJa ls hl hs0 0 (by omega) _ (by simp[zH,yN])) ?_;refine zS (zA (wa_ (zB (wM (h:=?_)))))
  first|refine i_ (hc:=zX4 _ _ (yN ls:Nat) (by omega) (by omega)) (h:=?_)
  refine W3 (h:=nE (h:=zA (wa_ (wa_ (zB (wM (h:=w_ (le (h:=wM (h:=nE (h:=zA (zG ?_))))))))))));refine qH (qA0 ls (yN ls) hl hs0 hne L hL _ (by simp[zH])) ?_;refine zS (zA (wa_ (zB (wM (h:=W3 (h:=nE (h:=zA (zF ?_))))))))
  all_goals (refine qX (hr:=(zL rfl zM)) (h:=?_);(focus (simp)))
def zB8 (l:List (List Et)):Nat:=l.length+wS jY l
theorem zRs {l:List (List Et)} {x:List Et} (h:x∈l):l.length+jY x<=zB8 l:=by
 have:=zU9 (f:=jY) h;unfold zB8;omega
theorem zSt {l:List (List Et)}:l.length<=zB8 l:=by unfold zB8;omega
def zB9:List (List Et)->Int
 | []=>0
 | z::r=>if zFh z=0 then zB9 r else zFh z
theorem zNn {z:List Et} {r:List (List Et)} (h:zFh z=0):zB9 (z::r)=zB9 r:=by rw[zB9,if_pos h]
theorem zVn {z:List Et} {r:List (List Et)} (h:¬zFh z=0):zB9 (z::r)=zFh z:=by rw[zB9,if_neg h]
theorem zPf:∀{L:List (List Et)},zB9 L=0->∀z∈L,zFh z=0
 | [],_,z,hz=>by cases hz
 | y::r,h,z,hz=>by
  by_cases hy:zFh y=0
  ·rw[zNn hy] at h
   rcases List.mem_cons.1 hz with rfl|hz
   ·exact hy
   ·exact zPf h z hz
  ·rw[zVn hy] at h;exact absurd h hy
theorem qBq (L:List (List Et)) (hL:L.length<2000000) (hw:∀z∈L,jY z<2000000):∀i:Nat,(i<=L.length)->∀s,zH 1 (some [6,7,8]) s=⟨[(6,.lst false 0 (yG false L)),(7,.int .i64 L.length),(8,.int .i64 i)],[],1⟩ ->
 oc.loop 59 2 s=some (if zB9 (L.drop i)=0 then(.exit 0,⟨[],[],1⟩) else(.ret,⟨[(2,.int .i64 (zB9 (L.drop i)))],[],1⟩)):=by
 refine zV (σ:=Nat) (fun i=>L.length - i) _ (fun i=>⟨[(6,.lst false 0 (yG false L)),(7,.int .i64 L.length),(8,.int .i64 i)],[],1⟩) _ ?_;intro i hi ih s hs;refine qD cd59 rfl rfl hs ?_;refine wa_ (zB (w_ (b_ (h:=nE (h:=zA (wa_ ?_))))));refine c_ (h1:=?_) (h2:=?_)
 rotate_right 1
 focus
  intro c1;first|exact dn c1|(
   have d1:=c1;try simp at d1
   refine zW ?_)
 rotate_right 1
 focus
  intro c1;first|exact dn c1|(
   have d1:=c1;try simp at d1
   have hj:i<L.length:=(by simp at c1;omega);have hwi:=zU (i:=i) (by omega);obtain⟨z,hx,e1,g1⟩:=zAn (t:=false) (l:=L) (i:=i) (by omega);have hz:=hw z (List.mem_of_getElem? hx);refine zC ?_)
 all_goals first|refine zR ?_|(
  refine zA ?_;refine wa_ (zG (wa_ (zB (w_ (x_ (h:=w_ (l_ (h:=W3 (h:=nE (h:=zA (wa_ (zB (wM (h:=?_))))))))))))));refine w_ (ca (hc:=qAj z hz) (h:=W3 (h:=nE (h:=zA (wa_ (zB (wM (h:=w_ (bE (h:=nE (h:=zA ?_)))))))))));refine c_ (h1:=?_) (h2:=?_)
  rotate_right 1
  focus
   intro c2;first|exact dn c2|(
    have d2:=c2;try simp at d2
    refine zC ?_)
  rotate_right 1
  focus
   intro c2;first|exact dn c2|(
    have d2:=c2;try simp at d2
    refine wa_ (zB (wM (h:=W3 (h:=nE (h:=zA (zF ?_)))))))
  all_goals first|refine zI ?_|refine zX ?_
  all_goals first|refine zK ?_|(
   refine zA ?_;refine zB (w_ (b_ (h:=wM (h:=nE (h:=?_)))))))
 all_goals first
 | (apply zP (ex:=(Ext.exit 0)) 1 (some [2]);(focus (simp[zH];rfl));(focus (rw[List.drop_eq_nil_of_le (by simp at c1;omega)];rfl)))
 | (apply zP (ex:=Ext.ret) 1 (some [2]);(focus (simp[zH];rfl));(focus (rw[e1,zVn (by simpa using d2),if_neg (by simpa using d2)])))
 | (refine(ih (i+1) (by omega) ?_ _ ?_).trans ?_;(focus (first|omega|(simp;done)|(simp;omega)));(focus (simp[zH,hwi];done));(focus (rw[e1,zNn (by simpa using d2)])))
theorem qFf (L:List (List Et)) (hL:L.length<2000000) (hw:∀z∈L,jY z<2000000):oc.call 59 [.lst false 0 (yG false L)]=some (.int .i64 (zB9 L),[]):=by
 refine qA rfl cd59 rfl rfl rfl (by simp;rfl) (by simp;rfl) ?_;have hl2:=qBq L hL hw 0 (by omega);simp only[List.drop_zero] at hl2;refine wa_ (zB (W3 (h:=nE (h:=zA (wa_ (wa_ (zB (wM (h:=w_ (le (h:=wM (h:=nE (h:=?_)))))))))))));refine zA (zG ?_);refine qY (hl2 _ (by simp[zH])) ?_ ?_
 rotate_right 1
 focus
  intro c1;first|exact dn c1|(
   have d1:=c1;try simp at d1
   skip)
 rotate_right 1
 focus
  intro c1;first|exact dn c1|(
   have d1:=c1;try simp at d1
   skip)
 all_goals first|refine zX ?_|refine zS ?_
 all_goals first|refine zK ?_|(
  refine zA ?_;refine wa_ (zB (W3 (h:=nE (h:=zA (zF ?_))))))
 all_goals (refine qX (hr:=(zL rfl zM)) (h:=?_);(focus (simp[*])))
def vN (L:List (List Et)):Int×List Et:=if 16<L.length then(2,[]) else if zB9 L=0 then((zK2 L.flatten).2,(zK2 L.flatten).1) else(zB9 L,[])
theorem qEs {L:List (List Et)} (h:zB9 L=0) (hl:L.length<=16):L.flatten.length<=3200/\∀x∈L.flatten,zI0 x.row=0/\wOk x.w=true/\x.w≠0:=by
 have h1:=zPf h;refine⟨?_,fun x hx=>?_⟩
 ·have:L.flatten.length<=L.length * 200:=by
   clear h hl
   induction L with
   | nil=>simp
   | cons y r ih =>
    have h2:=(zGf (h1 y (List.mem_cons_self ..))).1;have h3:=ih (fun z hz=>h1 z (List.mem_cons_of_mem _ hz));simp only[List.flatten_cons,List.length_append,List.length_cons];omega
  omega
 ·obtain⟨z,hz,hxz⟩:=List.mem_flatten.1 hx
  exact(zGf (h1 z hz)).2.1 x hxz
theorem qFx {L:List (List Et)}:yN L+L.length<=zB8 L:=by
 unfold yN zB8
 induction L with
 | nil=>simp
 | cons y r ih=>have:=kY (l:=y);simp only[zBw,List.length_cons] at *;omega
theorem w_mem {L:List (List Et)} (h:zB8 L<2000000):∀z∈L,jY z<2000000:=fun z hz=>by have:=zRs hz;omega
theorem qIn:∀s,zH 1 (some [6,25,26,27]) s=⟨[(6,.emp true),(25,.lst false 0 []),(26,.int .i64 0),(27,.int .i64 0)],[],1⟩->oc.loop 61 11 s=some (.exit 2,⟨[(6,.emp true)],[],1⟩):=by
 intro s hs;refine qD qAk rfl rfl hs ?_;refine wa_ (zB (w_ (b_ (h:=nE (h:=zA (wa_ ?_))))));refine c_ (h1:=?_) (h2:=?_)
 rotate_right 1
 focus
  intro c1;first|exact dn c1|(
   have d1:=c1;try simp at d1
   refine zW ?_)
 rotate_right 1
 focus
  intro c1;first|exact dn c1|(
   have d1:=c1;try simp at d1
   exfalso;simp at c1)
 all_goals first|refine zR ?_|(
  refine zA ?_;refine wa_ (zG (wa_ (zB (w_ (x_ (h:=w_ (l_ (h:=W3 (h:=nE (h:=zA (zB (wM (h:=wM (h:=?_))))))))))))));refine w_ (ap (h:=W3 (h:=nE (h:=zI (zA (zB (w_ (b_ (h:=wM (h:=nE (h:=?_))))))))))))
 all_goals (apply zP (ex:=(Ext.exit 2)) 1 (some [6]);(focus (simp[zH];rfl));(focus (rfl)))
theorem qJv:oc.call 61 [.lst false 0 []]=some (.lst false 0 [],[]):=by
 have h3:=zJa [] (by simp) (by simp[yN]) 0 (by simp);have hz:yN []=0:=rfl;refine qA rfl qAk rfl rfl rfl (by simp;rfl) (by simp;rfl) ?_;refine wa_ (zB (w_ (aN (h:=nE (h:=zA (wa_ (zB (W3 (h:=nE (h:=zA (wa_ (wa_ ?_))))))))))));refine zB (wM (h:=w_ (le (h:=wM (h:=nE (h:=zA (zG ?_)))))));refine qH (h3 _ (by simp[zH,yN])) ?_;refine zS (zA (wa_ (zB (wM (h:=?_)))))
 first|refine i_ (hc:=(by simp only[hz];exact zL5 _ _)) (h:=?_)
 refine W3 (h:=nE (h:=zA (wa_ (wa_ (zB (wM (h:=w_ (le (h:=wM (h:=nE (h:=zA (zG ?_))))))))))));refine qH (qIn _ (by simp[zH])) ?_;refine zS (zA (wa_ (zB (wM (h:=W3 (h:=nE (h:=zA (zF ?_))))))))
 all_goals (refine qX (hr:=(zL rfl zM)) (h:=?_);(focus (simp)))
theorem zZe (L:List (List Et)) (hw:zB8 L<2000000):oc.call 14 [.lst false 0 (yG false L)]=some (.agg [.int .i64 (vN L).1,.lst true 2 (ets true (vN L).2)],[]):=by
 refine qA rfl cd14 rfl rfl rfl (by simp;rfl) (by simp;rfl) ?_;have hlen:=zSt (l:=L);have hls:=qFx (L:=L);refine wa_ (zB (w_ (al (h:=nE (h:=zA (wa_ (wa_ (zB (wM (h:=w_ (le (h:=w_ (b_ (h:=nE (h:=?_)))))))))))))));refine zA ?_;refine c_ (h1:=?_) (h2:=?_)
 rotate_right 1
 focus
  intro c1;first|exact dn c1|(
   have d1:=c1;try simp at d1
   have k1:L.length<=16:=(by first|omega|(simp at d1;omega));refine zC ?_)
 rotate_right 1
 focus
  intro c1;first|exact dn c1|(
   have d1:=c1;try simp at d1
   refine wa_ (zB (w_ (bd (h:=w0 (s_ (h:=nE (h:=zA (zF ?_)))))))))
 all_goals first|refine zK ?_|(
  refine zA ?_;refine wa_ (wa_ (zB (wM (h:=w_ (ca (hc:=qFf L (by omega) (w_mem hw)) (h:=W3 (h:=nE (h:=zA (wa_ (zB (wM (h:=w_ (bE (h:=?_))))))))))))));refine nE (h:=zA ?_);refine c_ (h1:=?_) (h2:=?_)
  rotate_right 1
  focus
   intro c2;first|exact dn c2|(
    have d2:=c2;try simp at d2
    obtain⟨k2,k3⟩:=qEs (L:=L) (by simpa using d2) k1;have k4:zB9 L=0:=(by simpa using d2);have hsum:=qAc L.flatten (by omega) (fun x hx=>by have:=(zWx (k3 x hx).1).1;omega) (fun x hx=>wOk_w (k3 x hx).2.1);have hsz:=qAc [] (by simp) (fun x hx=>by cases hx) (fun x hx=>by cases hx);rcases(show L=[]\/0<L.length by cases L<;>simp) with rfl|hz;rotate_right;have hcat:=qKp L (by omega) (by omega) hz;have hM:vN L=((zK2 L.flatten).2,(zK2 L.flatten).1):=(by unfold vN;rw[if_neg (by omega),if_pos k4]);obtain⟨M,hMf⟩:∃M,L.flatten=M:=⟨_,rfl⟩;rw[hMf] at hcat hsum hM
    all_goals
     refine zC ?_)
  rotate_right 1
  focus
   intro c2;first|exact dn c2|(
    have d2:=c2;try simp at d2
    refine wa_ (zB (wM (h:=w_ (bd (h:=w0 (s_ (h:=nE (h:=zA (zF ?_))))))))))
  all_goals first|refine zK ?_|(
   refine zA ?_;refine wa_ (zB (wM (h:=?_)))
   first|refine w_ (ca (hc:=hcat) (h:=?_))|refine w_ (ca (hc:=qJv) (h:=?_))
   first|refine w_ (ca (hc:=hsum) (h:=?_))|refine w_ (ca (hc:=hsz) (h:=?_))
   refine wM (h:=w_ (ex (h:=w_ (ex (h:=W3 (h:=W3 (h:=nE (h:=zA (wa_ (zB (wM (h:=wM (h:=w_ (bd (h:=?_)))))))))))))));refine w0 (s_ (h:=nE (h:=zA (zF ?_))))))
 all_goals (refine qX (hr:=(vY (tys_ok.zero _ _ rfl) rfl (by simp;rfl) (by rfl) zM)) (h:=?_);(focus (first|(rw[hM];simp;done)|(unfold vN;rw[if_pos (by omega)];simp;done)|(unfold vN;rw[if_neg (by omega),if_neg (by simpa using d2)];simp;done)|(simp[vN,zB9];done))))
def accF:List (List Et)->List Et->List Et
 | [],o=>o
 | z::r,o=>if zFh z=0 then accF r (o++z) else o
@[simp] abbrev srE (r:Int×List Et):V:=.agg [.int .i64 r.1,.lst false 0 (ets false r.2)]
end Go.Proofs.YtbcgenkegnmkhaaGreat.Ev
namespace Go.Proofs.YtbcgenkegnmkhaaGreat.Ev
open Go
set_option maxRecDepth 100000
set_option linter.unusedSimpArgs false
set_option linter.unusedVariables false
set_option maxHeartbeats 2000000
theorem e_ss1 (x y:Et) (hx:x.row.length<2000000) (hy:y.row.length<2000000):oc.call 132 [x.v false,y.v false]=some (.bool (decide (x=y)),[]):=by
 refine qA rfl cd132 rfl rfl rfl (by simp;rfl) (by simp;rfl) ?_;refine wa_ (zB (w_ (bx (h:=w_ (bx (h:=W3 (h:=nE (h:=zA (wa_ (zB (w_ (f_ (h:=w_ (l_ (h:=w_ (f_ (h:=?_)))))))))))))))));refine w_ (l_ (h:=w_ (bE (h:=wM (h:=?_)))));refine gw_ (h1:=?_) (h2:=?_)
 rotate_right 1
 focus
  intro c1;first|exact dn c1|(
   have d1:=c1;try simp at d1
   refine go_ (h:=go_ (h:=go_ (h:=go_ (h:=go_ (h:=?_))))))
 rotate_right 1
 focus
  intro c1;first|exact dn c1|(
   have d1:=c1;try simp at d1
   refine g_ (h:=w_ (f_ (h:=g_ (h:=w_ (l_ (h:=g_ (h:=w_ (f_ (h:=g_ (h:=w_ (l_ (h:=g_ (h:=w_ (ca (hc:=qMt x.row y.row 0 0 (by omega) (by omega)) (h:=?_))))))))))))))))
 all_goals
  refine w_ (pk (h:=W3 (h:=nE (h:=?_))))
 all_goals first
 | (
  refine zA ?_;refine zF ?_)
 all_goals (refine qX (hr:=(zL rfl zM)) (h:=?_);(focus (simp[Et.eq_iff] at *;first|(simp[*];done)|grind)))
theorem l_eqF (a b:List Et) (hl:a.length<2000000) (hab:a.length=b.length) (ha:∀x∈a,x.row.length<2000000) (hb:∀x∈b,x.row.length<2000000):∀i:Nat,(i<=a.length)->∀s,zH 3 (some [1,2,15,16,17]) s=⟨[(1,.lst false 0 (ets false b)),(2,.clo 132 []),(15,.lst false 0 (ets false a)),(16,.int .i64 a.length),(17,.int .i64 i)],[],3⟩ ->
 oc.loop 131 4 s=some (if a.drop i=b.drop i then(.exit 0,⟨[],[],3⟩) else(.ret,⟨[(6,.bool false)],[],3⟩)):=by
 refine zV (σ:=Nat) (fun i=>a.length - i) _ (fun i=>⟨[(1,.lst false 0 (ets false b)),(2,.clo 132 []),(15,.lst false 0 (ets false a)),(16,.int .i64 a.length),(17,.int .i64 i)],[],3⟩) _ ?_;intro i hi ih s hs;refine qD qKh rfl rfl hs ?_;refine wa_ (zB (w_ (b_ (h:=nE (h:=zA (wa_ ?_))))));refine c_ (h1:=?_) (h2:=?_)
 rotate_right 1
 focus
  intro c1;first|exact dn c1|(
   have d1:=c1;try simp at d1
   refine zW ?_)
 rotate_right 1
 focus
  intro c1;first|exact dn c1|(
   have d1:=c1;try simp at d1
   have hj:i<a.length:=(by simp at c1;omega);have hw:=zU (i:=i) (by omega);obtain⟨x,hx,e1,g1⟩:=zBk (t:=false) (l:=a) (i:=i) (by omega);obtain⟨y,hy,e2,g2⟩:=zBk (t:=false) (l:=b) (i:=i) (by omega);refine zC ?_)
 all_goals first|refine zR ?_|(
  refine zA ?_;refine wa_ (zG (wa_ (zB (wM (h:=w_ (x_ (h:=w_ (l_ (h:=w_ (al (h:=W3 (h:=w0 (s_ (h:=nE (h:=zA ?_)))))))))))))));refine wa_ (zB (wM (h:=wM (h:=w_ (x_ (h:=w_ (l_ (h:=w_ (al (h:=w0 (s_ (h:=nE (h:=zA (wa_ (zB ?_)))))))))))))));refine wM (h:=w_ (l_ (h:=w_ (l_ (h:=w_ (ca (hc:=e_ss1 x y (ha x (List.mem_of_getElem? hx)) (hb y (List.mem_of_getElem? hy))) (h:=w_ (u_ (h:=nE (h:=zA ?_))))))))));refine c_ (h1:=?_) (h2:=?_)
  rotate_right 1
  focus
   intro c2;first|exact dn c2|(
    have d2:=c2;try simp at d2
    refine zC ?_)
  rotate_right 1
  focus
   intro c2;first|exact dn c2|(
    have d2:=c2;try simp at d2
    refine wa_ (zB (W3 (h:=nE (h:=zA (zF ?_))))))
  all_goals first|refine zI ?_|refine zX ?_
  all_goals first|refine zK ?_|(
   refine zA ?_;refine zB (w_ (b_ (h:=wM (h:=nE (h:=?_)))))))
 all_goals first
 | (apply zP (ex:=(Ext.exit 0)) 3 (some [6]);(focus (simp[zH];rfl));(focus (rw[List.drop_eq_nil_of_le (by simp at c1;omega),List.drop_eq_nil_of_le (by simp at c1;omega)];rfl)))
 | (apply zP (ex:=Ext.ret) 3 (some [6]);(focus (simp[zH];rfl));(focus (rw[e1,e2,if_neg (fun h=>d2 (List.cons.inj h).1)])))
 | (refine(ih (i+1) (by omega) ?_ _ ?_).trans ?_;(focus (first|omega|(simp;done)|(simp;omega)));(focus (simp[zH,hw];done));(focus (rw[e1,e2];simp[d2])))
theorem qJj (a b:List Et) (hl:a.length<2000000) (hl2:b.length<2000000) (ha:∀x∈a,x.row.length<2000000) (hb:∀x∈b,x.row.length<2000000):oc.call 131 [.lst false 0 (ets false a),.lst false 0 (ets false b),.clo 132 []]=some (.bool (decide (a=b)),[]):=by
 refine qA rfl qKh rfl rfl rfl (by simp;rfl) (by simp;rfl) ?_;refine wa_ (zB (W3 (h:=nE (h:=zA (wa_ (wa_ (zB (wM (h:=w_ (le (h:=wM (h:=w_ (le (h:=?_))))))))))))));refine w_ (bE (h:=nE (h:=zA ?_)));refine c_ (h1:=?_) (h2:=?_)
 rotate_right 1
 focus
  intro c1;first|exact dn c1|(
   have d1:=c1;try simp at d1
   have hlen:a.length=b.length:=(by simp at c1;omega);have hlp:=l_eqF a b hl hlen ha hb 0 (by omega);simp only[List.drop_zero] at hlp;refine zC ?_)
 rotate_right 1
 focus
  intro c1;first|exact dn c1|(
   have d1:=c1;try simp at d1
   have hne:¬a=b:=(by rintro rfl;simp at c1);refine wa_ (zB (W3 (h:=nE (h:=zA (zF ?_))))))
 all_goals first|refine zK ?_|(
  refine zA ?_;refine wa_ (wa_ (zB (wM (h:=w_ (le (h:=wM (h:=nE (h:=zA (zG ?_)))))))));refine qY (hlp _ (by simp[zH])) ?_ ?_
  rotate_right 1
  focus
   intro c2;first|exact dn c2|(
    have d2:=c2;try simp at d2
    skip)
  rotate_right 1
  focus
   intro c2;first|exact dn c2|(
    have d2:=c2;try simp at d2
    skip)
  all_goals first|refine zX ?_|refine zS ?_
  all_goals first|refine zK ?_|(
   refine zA ?_;refine wa_ (zB (W3 (h:=nE (h:=zA (zF ?_)))))))
 all_goals (refine qX (hr:=(zL rfl zM)) (h:=?_);(focus (simp[*])))
theorem qG3 (a b:List Et) (hl:a.length<2000000) (hl2:b.length<2000000) (ha:∀x∈a,x.row.length<2000000) (hb:∀x∈b,x.row.length<2000000):oc.call 62 [.lst false 0 (ets false a),.lst false 0 (ets false b)]=some (.bool (decide (a=b)),[]):=by
 refine qA rfl cd62 rfl rfl rfl (by simp;rfl) (by simp;rfl) ?_;refine wa_ (zB (W3 (h:=nE (h:=zA (wa_ (zB (wM (h:=wM (h:=w_ (ca (hc:=qJj a b hl hl2 ha hb) (h:=W3 (h:=nE (h:=?_)))))))))))));refine zA (zF ?_)
 all_goals (refine qX (hr:=(zL rfl zM)) (h:=?_);(focus (simp)))
theorem qFz (a b:List Et) (hl:a.length<2000000) (hl2:b.length<2000000) (ha:∀x∈a,x.row.length<2000000) (hb:∀x∈b,x.row.length<2000000):oc.call 15 [.lst false 0 (ets false a),.lst false 0 (ets false b)]=some (.bool (decide (a=b)),[]):=by
 refine qA rfl cd15 rfl rfl rfl (by simp;rfl) (by simp;rfl) ?_;refine wa_ (zB (W3 (h:=nE (h:=zA (wa_ (zB (wM (h:=wM (h:=w_ (ca (hc:=qG3 a b hl hl2 ha hb) (h:=W3 (h:=nE (h:=?_)))))))))))));refine zA (zF ?_)
 all_goals (refine qX (hr:=(zL rfl zM)) (h:=?_);(focus (simp)))
theorem qIa {a b:Et}:ltT a b=true↔vT a.row b.row<0:=by unfold ltT;rw[decide_eq_true_eq]
theorem qF4 {a b:Et}:ltT a b=false↔0<=vT a.row b.row:=by unfold ltT;rw[decide_eq_false_iff_not];exact Int.not_lt
theorem U_ltT:Sums ltT qDg:=by
 refine⟨⟨fun {x y} h=>?_,fun {x y z} h1 h2=>?_⟩,fun {x c d}=>rfl,fun {x c d}=>rfl,fun {a b} h1 h2=>?_,fun {x a b}=>?_⟩
 ·have:=kX x.row y.row
  rw[qIa] at h;rw[qF4];omega
 ·rw[qF4] at *
  exact zJn h2 h1
 ·have h3:=kX a.row b.row
  rw[qF4] at h1 h2;have h4:a.row=b.row:=cmpL_eq.1 (by omega);cases a;cases b;simp only[qDg,Et.mk.injEq] at *;exact⟨h4,qBo⟩
 ·simp only[qDg,Et.mk.injEq,true_and]
  exact zVj
theorem zZn {z l:List Et} (h:zFh z=0) (hp:l.Perm z):zK2 l=(z,0):=by
 obtain⟨h1,h2,h3⟩:=zGf h;unfold zK2;rw[show l.foldl qCs []=z.foldl qCs [] from zMh U_ltT hp [],show z.foldl qCs []=[]++z from zGu z [] (by simpa using h3)];rw[List.nil_append];unfold qGu
 have hb:z.any badT=false:=by
  rw[List.any_eq_false];intro x hx
  have:=(h2 x hx).2.1
  simp only[wOk] at this;simp[badT,this]
 have hf:z.filter qKm=z:=by
  rw[List.filter_eq_self];intro x hx
  simpa [qKm] using (h2 x hx).2.2
 rw[hb,hf];simp only[Bool.false_eq_true,if_false];rw[if_neg (by omega)]
theorem zPy:∀{l m:List Et} {p:Option Et},(∀x∈l,zI0 x.row=0/\wOk x.w=true/\x.w≠0)->(match p with|some q=>(q::l).Pairwise (fun x y=>ltT x y=true)|none=>l.Pairwise (fun x y=>ltT x y=true))->zJp p l=0
 | [],_,p,_,_=>by cases p<;>rfl
 | c::r,m,p,h,hp=>by
  obtain⟨a1,a2,a3⟩:=h c (List.mem_cons_self ..)
  have hpw:(c::r).Pairwise (fun x y=>ltT x y=true):=by
   cases p with
   | none=>exact hp
   | some q=>exact(List.pairwise_cons.1 hp).2
  rw[zPs a1 (by simp[a2,a3]) (by
   cases p with
   | none=>simp
   | some q =>
    have:=(List.pairwise_cons.1 hp).1 c (List.mem_cons_self ..)
    rw[qIa] at this
    simpa using this)]
  exact zPy (m:=m) (p:=some c) (fun x hx=>h x (List.mem_cons_of_mem _ hx)) hpw
theorem zQm {z q:List Et} (h:zFh z=0) (hq:q.Sublist z):zFh q=0:=by
 obtain⟨h1,h2,h3⟩:=zGf h
 have:=hq.length_le
 unfold zFh;rw[if_neg (by omega)];exact zPy (m:=[]) (p:=none) (fun x hx=>h2 x (hq.subset hx)) (h3.sublist hq)
theorem zMe:∀{L:List (List Et)},(∀q∈L,zFh q=0)->zB9 L=0
 | [],_=>rfl
 | q::r,h=>by rw[zNn (h q (List.mem_cons_self ..))];exact zMe (fun x hx=>h x (List.mem_cons_of_mem _ hx))
theorem zS8 {f:List Int->Int} {m:Nat}:∀{z:List Et},(∀e∈z,0<=f e.row/\f e.row<m)->(jF f m z).flatten.Perm z:=by
 intro z
 induction m generalizing z with
 | zero =>
  intro h;cases z with
  | nil=>exact List.Perm.refl _
  | cons e r=>have:=h e (List.mem_cons_self ..);omega
 | succ m ih =>
  intro h
  have e1:jF f (m+1) z=jF f m (z.filter fun e=>decide (f e.row≠(m:Int)))++[z.filter fun e=>decide (f e.row=(m:Int))]:=by
   unfold jF;rw[List.range_succ,List.map_append]
   congr 1
   apply List.map_congr_left;intro k hk;rw[List.filter_filter];apply List.filter_congr;intro e _
   have:k<m:=List.mem_range.1 hk
   by_cases hh:f e.row=(k:Int)
   ·simp[hh];omega
   ·simp[hh]
  rw[e1,List.flatten_append];simp only[List.flatten_cons,List.flatten_nil,List.append_nil]
  have h2:=ih (z:=z.filter fun e=>decide (f e.row≠(m:Int))) (fun e he=>by
   obtain⟨a,b⟩:=List.mem_filter.1 he
   have:=h e a
   simp at b
   omega)
  refine(h2.append_right _).trans ?_;have h3:=List.filter_append_perm (fun e:Et=>decide (f e.row=(m:Int))) z;refine List.Perm.trans List.perm_append_comm ?_;refine List.Perm.trans ?_ h3;refine List.Perm.of_eq ?_
  congr 1
  apply List.filter_congr;intro e _;simp
def frC (pl:List Nd) (f:Fr):Int:=if f.kind=1 then(if f.news=[] then zRp pl f.node f.side f.ep f.set else 1) else if f.kind=2 then(if f.node=0/\f.side=0/\f.ep=0/\f.set=[]/\f.news≠[] then ctsF pl f.news else 1) else 5
def frN0 (pl:List Nd) (f:Fr):Int:=if(yD pl).2=0 then frC pl f else(yD pl).2
theorem qMr (pl:List Nd) (f:Fr) (hp:pl.length<2000000) (hk:okN pl) (h0:(yD pl).2=0) (hf:w_Fr f<2000000):oc.call 54 [.lst false 0 (nds false 0 pl),.lst false 0 (ints (jT pl)),f.v false]=some (.int .i64 (frC pl f),[]):=by
 refine qA rfl cd54 rfl rfl rfl (by simp;rfl) (by simp;rfl) ?_;have hf1:jY f.set<2000000:=by unfold w_Fr at hf;omega
 have hn0:(f.news=[])=(f.news.length=0):=by simp
 have hs0:(f.set=[])=(f.set.length=0):=by simp
 refine wa_ (zB (w_ (bx (h:=W3 (h:=nE (h:=zA (wa_ (wa_ (zB (w_ (f_ (h:=w_ (l_ (h:=nE (h:=?_)))))))))))))));refine zA (zG (wa_ (zB (w_ (bE (h:=W3 (h:=nE (h:=zA ?_))))))));refine c_ (h1:=?_) (h2:=?_)
 rotate_right 1
 focus
  intro c1;first|exact dn c1|(
   have d1:=c1;try simp at d1
   refine wa_ (zB (w_ (bE (h:=W3 (h:=nE (h:=zA ?_))))));refine c_ (h1:=?_) (h2:=?_)
   rotate_right 1
   focus
    intro c2;first|exact dn c2|(
     have d2:=c2;try simp at d2
     refine zC ?_)
   rotate_right 1
   focus
    intro c2;first|exact dn c2|(
     have d2:=c2;try simp at d2
     refine wa_ (wa_ (zB (w_ (f_ (h:=w_ (l_ (h:=w_ (bE (h:=wM (h:=?_))))))))));refine gw_ (h1:=?_) (h2:=?_)
     rotate_right 1
     focus
      intro c3;first|exact dn c3|(
       have d3:=c3;try simp at d3
       refine go_ (h:=go_ (h:=go_ (h:=?_))))
     rotate_right 1
     focus
      intro c3;first|exact dn c3|(
       have d3:=c3;try simp at d3
       refine g_ (h:=w_ (f_ (h:=g_ (h:=w_ (l_ (h:=g_ (h:=w_ (bE (h:=?_))))))))))
     all_goals
      refine w_ (pk (h:=wM (h:=?_)));refine gw_ (h1:=?_) (h2:=?_)
      rotate_right 1
      focus
       intro c4;first|exact dn c4|(
        have d4:=c4;try simp at d4
        refine go_ (h:=go_ (h:=go_ (h:=?_))))
      rotate_right 1
      focus
       intro c4;first|exact dn c4|(
        have d4:=c4;try simp at d4
        refine g_ (h:=w_ (f_ (h:=g_ (h:=w_ (l_ (h:=g_ (h:=w_ (bE (h:=?_))))))))))
      all_goals
       refine w_ (pk (h:=wM (h:=?_)));refine gw_ (h1:=?_) (h2:=?_)
       rotate_right 1
       focus
        intro c5;first|exact dn c5|(
         have d5:=c5;try simp at d5
         refine go_ (h:=go_ (h:=go_ (h:=go_ (h:=?_)))))
       rotate_right 1
       focus
        intro c5;first|exact dn c5|(
         have d5:=c5;try simp at d5
         refine g_ (h:=w_ (f_ (h:=g_ (h:=w_ (l_ (h:=g_ (h:=w_ (le (h:=g_ (h:=w_ (b_ (h:=?_)))))))))))))
       all_goals
        refine w_ (pk (h:=wM (h:=?_)));refine gw_ (h1:=?_) (h2:=?_)
        rotate_right 1
        focus
         intro c6;first|exact dn c6|(
          have d6:=c6;try simp at d6
          refine go_ (h:=go_ (h:=go_ (h:=go_ (h:=?_)))))
        rotate_right 1
        focus
         intro c6;first|exact dn c6|(
          have d6:=c6;try simp at d6
          refine g_ (h:=w_ (f_ (h:=g_ (h:=w_ (l_ (h:=g_ (h:=w_ (le (h:=g_ (h:=w_ (bE (h:=?_)))))))))))))
        all_goals
         refine w_ (pk (h:=nE (h:=?_)))
     all_goals first
     | (
      refine zA ?_;refine c_ (h1:=?_) (h2:=?_)
      rotate_right 1
      focus
       intro c7;first|exact dn c7|(
        have d7:=c7;try simp at d7
        refine zC ?_)
      rotate_right 1
      focus
       intro c7;first|exact dn c7|(
        have d7:=c7;try simp at d7
        refine wa_ (zB (W3 (h:=nE (h:=zA (zF ?_)))))))
     all_goals first|refine zK ?_|(
      refine zA ?_;refine wa_ (zB (wM (h:=w_ (f_ (h:=w_ (l_ (h:=w_ (ca (hc:=qJk pl f.news hp) (h:=W3 (h:=nE (h:=zA (zF ?_)))))))))))))))
 rotate_right 1
 focus
  intro c1;first|exact dn c1|(
   have d1:=c1;try simp at d1
   refine wa_ (wa_ (zB (w_ (f_ (h:=w_ (l_ (h:=w_ (le (h:=w_ (b_ (h:=nE (h:=zA ?_))))))))))));refine c_ (h1:=?_) (h2:=?_)
   rotate_right 1
   focus
    intro c8;first|exact dn c8|(
     have d8:=c8;try simp at d8
     refine zC ?_)
   rotate_right 1
   focus
    intro c8;first|exact dn c8|(
     have d8:=c8;try simp at d8
     refine wa_ (zB (W3 (h:=nE (h:=zA (zF ?_))))))
   all_goals first|refine zK ?_|(
    refine zA ?_;refine wa_ (zB (wM (h:=wM (h:=w_ (f_ (h:=w_ (l_ (h:=w_ (f_ (h:=w_ (l_ (h:=w_ (f_ (h:=w_ (l_ (h:=w_ (f_ (h:=w_ (l_ (h:=?_))))))))))))))))))));refine w_ (ca (hc:=qE5 pl _ _ _ f.set hp hk h0 hf1) (h:=W3 (h:=nE (h:=zA (zF ?_)))))))
 all_goals first|refine zI ?_|refine zX ?_
 all_goals first|refine zK ?_|(
  refine zA ?_;refine wa_ (zB (W3 (h:=nE (h:=zA (zF ?_))))))
 all_goals (refine qX (hr:=(zL rfl zM)) (h:=?_);(focus (clear hk hf hf1;simp only[frC,hn0,hs0];simp;grind)))
theorem qAa (pl:List Nd) (f:Fr) (hp:pl.length<2000000) (hk:okN pl) (hf:w_Fr f<2000000):oc.call 12 [.lst false 0 (nds false 0 pl),f.v false]=some (.int .i64 (frN0 pl f),[]):=by
 refine qA rfl cd12 rfl rfl rfl (by simp;rfl) (by simp;rfl) ?_;refine wa_ (zB (w_ (bx (h:=W3 (h:=nE (h:=zA (wa_ (zB (wM (h:=w_ (ca (hc:=zP8 pl hp hk) (h:=wM (h:=w_ (ex (h:=?_)))))))))))))));refine w_ (ex (h:=W3 (h:=W3 (h:=nE (h:=zA (wa_ (wa_ (zB (wM (h:=w_ (bE (h:=nE (h:=zA ?_)))))))))))));refine c_ (h1:=?_) (h2:=?_)
 rotate_right 1
 focus
  intro c1;first|exact dn c1|(
   have d1:=c1;try simp at d1
   refine zC ?_)
 rotate_right 1
 focus
  intro c1;first|exact dn c1|(
   have d1:=c1;try simp at d1
   refine wa_ (zB (wM (h:=W3 (h:=nE (h:=zA (zF ?_)))))))
 all_goals first|refine zK ?_|(
  refine zA ?_;refine wa_ (zB (wM (h:=wM (h:=w_ (l_ (h:=w_ (ca (hc:=qMr pl f hp hk d1 hf) (h:=W3 (h:=nE (h:=zA (zF ?_))))))))))))
 all_goals (refine qX (hr:=(zL rfl zM)) (h:=?_);(focus (clear hk;simp[frN0, *])))
end Go.Proofs.YtbcgenkegnmkhaaGreat.Ev
namespace Go.Proofs.YtbcgenkegnmkhaaGreat.Ev
open Go
set_option maxRecDepth 100000
set_option linter.unusedSimpArgs false
set_option linter.unusedVariables false
set_option maxHeartbeats 2000000
def zE0 (m s:Int) (F:List Fr):List (List Et):=(F.filter fun f=>decide (f.node=m/\f.side=s)).map Fr.set
theorem vH {m s:Int}:zE0 m s []=[]:=rfl
theorem zA1 {m s:Int} {F G:List Fr}:zE0 m s (F++G)=zE0 m s F++zE0 m s G:=by simp[zE0]
theorem zTy {m s:Int} {f:Fr} {F:List Fr} (h:f.node=m/\f.side=s):zE0 m s (f::F)=f.set::zE0 m s F:=by
 unfold zE0;rw[List.filter_cons_of_pos (by simpa using h)];rfl
theorem zUb {m s:Int} {f:Fr} {F:List Fr} (h:¬(f.node=m/\f.side=s)):zE0 m s (f::F)=zE0 m s F:=by
 unfold zE0;rw[List.filter_cons_of_neg (by simpa using h)]
theorem zR9 {m s ep:Int}:∀{l:List (List Et)},zE0 m s (jG m s ep l)=l.filter fun p=>decide (p≠[])
 | []=>rfl
 | p::r=>by
  have ih:=zR9 (m:=m) (s:=s) (ep:=ep) (l:=r)
  by_cases h:p=[]
  ·subst h;rw[zBi,ih,List.filter_cons_of_neg (by simp)]
  ·rw[zBm h,zTy (by simp),ih,List.filter_cons_of_pos (by simpa using h)]
theorem zMj {m s m' s' ep:Int} (h:¬(m'=m/\s'=s)):∀{l:List (List Et)},zE0 m s (jG m' s' ep l)=[]
 | []=>rfl
 | p::r=>by
  have ih:=zMj h (ep:=ep) (l:=r)
  by_cases hp:p=[]
  ·subst hp;rw[zBi,ih]
  ·rw[zBm hp,zUb (by simpa using h),ih]
theorem zCo {pl:List Nd} {node:Int} {W:Nat} {sf ep:Int} {z:List Et} {m m' t:Int} (h:m'≠m):∀{r:List Int} {s:Nat},zE0 m t (qQ pl node W sf ep z m' s r).1=[]
 | [],s=>rfl
 | x::r,s=>by
  have ih:=zCo (pl:=pl) (node:=node) (W:=W) (sf:=sf) (ep:=ep) (z:=z) (t:=t) h (r:=r) (s:=s+1)
  by_cases hx:x=node
  ·rw[zAv hx];simp only[zA1,ih];rw[zMj (fun hh=>h hh.1)];rfl
  ·rw[zAu hx,ih]
def neP (l:List (List Et)):List (List Et):=l.filter fun p=>decide (p≠[])
def zBo (pl:List Nd) (m:Int) (s:Nat) (node:Int):Bool:=(qB (xH pl m))[s]? == some node
theorem zWi {pl:List Nd} {node:Int} {W:Nat} {sf ep:Int} {z:List Et} {m:Int} {s:Nat} (hs:s<=1):zE0 m s (qQ pl node W sf ep z m 0 (qB (xH pl m))).1=if zBo pl m s node=true then neP (zDj pl W sf z m) else []:=by
 have key:∀r:List Int,r.length<=2->zE0 m s (qQ pl node W sf ep z m 0 r).1=if(r[s]? == some node)=true then neP (zDj pl W sf z m) else []:=by
  intro r hr;have s01:s=0\/s=1:=by omega
  match r,hr with
  | [],_=>simp[qQ,vH]
  | [x],_ =>
   by_cases hx:x=node
   ·rw[zAv hx]
    rcases s01 with rfl|rfl
    ·simp only[zA1,qQ,vH,List.append_nil]
     rw[zR9];simp[hx,neP]
    ·simp only[zA1,qQ,vH,List.append_nil]
     rw[zMj (by simp)];simp
   ·rw[zAu hx]
    rcases s01 with rfl|rfl
    ·simp[qQ,vH,hx]
    ·simp[qQ,vH]
  | [x,y],_ =>
   have e1:zE0 m s (qQ pl node W sf ep z m 1 [y]).1=if s=1/\y=node then neP (zDj pl W sf z m) else []:=by
    by_cases hy:y=node
    ·rw[zAv hy]
     rcases s01 with rfl|rfl
     ·simp only[zA1,qQ,vH,List.append_nil]
      rw[zMj (by simp)];simp
     ·simp only[zA1,qQ,vH,List.append_nil]
      rw[zR9];simp[hy,neP]
    ·rw[zAu hy];simp[qQ,vH,hy]
   by_cases hx:x=node
   ·rw[zAv hx]
    simp only[zA1,Nat.zero_add,e1];rcases s01 with rfl|rfl
    ·rw[zR9];simp[hx,neP]
    ·rw[zMj (by simp)];simp
   ·rw[zAu hx,Nat.zero_add,e1]
    rcases s01 with rfl|rfl
    ·simp[hx]
    ·simp
 exact key _ (zAh _)
theorem zBs {a:Int}:∀{l:List Nd} {i:Nat},(qJ a i l).Nodup
 | [],i=>by simp[qJ]
 | d::r,i=>by
  unfold qJ;split
  ·refine List.nodup_cons.2 ⟨fun h=>?_,zBs⟩
   obtain⟨k,_,e,_⟩:=zDr h;omega
  ·exact zBs
theorem zN1 {pl:List Nd} {node:Int} {W:Nat} {sf ep:Int} {z:List Et} {m t:Int}:∀{r:List Int},m ∉ r->zE0 m t (qW pl node W sf ep z r).1=[]
 | [],_=>rfl
 | x::r,h=>by
  simp only[qW,zA1];rw[zCo (fun e=>h (by simp[e])),zN1 (fun e=>h (by simp[e]))];rfl
theorem qAf {pl:List Nd} {node:Int} {W:Nat} {sf ep:Int} {z:List Et} {m:Int} {s:Nat} (hs:s<=1):∀{r:List Int},r.Nodup->m∈r->zE0 m s (qW pl node W sf ep z r).1=if zBo pl m s node=true then neP (zDj pl W sf z m) else []
 | [],_,h=>by cases h
 | x::r,hn,h=>by
  obtain⟨n1,n2⟩:=List.nodup_cons.1 hn;simp only[qW,zA1]
  by_cases e:x=m
  ·subst e
   rw[zWi hs,zN1 n1,List.append_nil]
  ·have hm:m∈r:=by
    rcases List.mem_cons.1 h with h|h
    ·exact absurd h.symm e
    ·exact h
   rw[zCo e,qAf hs n2 hm];rfl
def qH9 (pl:List Nd) (W:Nat) (sf ep:Int) (f:Fr) (g:Int):Prop:=frN0 pl f=0/\f.ep=ep/\(∃x r,f.set=x::r/\x.row.length<=4/\(zTs pl f.node W sf x.row).2=g)/\jY f.set<=1000/\f.news=[]
theorem zI8 {Q:Fr->Int->Prop} {m s ep:Int}:∀{l:List (List Et)} {k:Nat},(∀i p,l[i]? = some p->p≠[]->Q ⟨1,m,s,ep,p,[]⟩ ((k+i:Nat):Int))->(jG m s ep l).length=(vK k l).length/\∀p∈(jG m s ep l).zip (vK k l),Q p.1 p.2
 | [],k,_=>by simp[jG,vK]
 | p::r,k,h=>by
  obtain⟨h1,h2⟩:=zI8 (l:=r) (k:=k+1) (Q:=Q) (m:=m) (s:=s) (ep:=ep) (fun i q hq hn=>by
   have:=h (i+1) q (by simpa using hq) hn
   rwa [show k+1+i=k+(i+1) by omega])
  by_cases e:p=[]
  ·subst e;rw[zBi,zNm];exact⟨h1,h2⟩
  ·rw[zBm e,zOl e]
   refine⟨by simp[h1],fun q hq=>?_⟩;rw[List.zip_cons_cons] at hq;rcases List.mem_cons.1 hq with rfl|hq
   ·have:=h 0 p (by simp) e
    simpa using this
   ·exact h2 q hq
theorem qAy {Q:Fr->Int->Prop} {F F':List Fr} {G G':List Int} (h:F.length=G.length/\∀p∈F.zip G,Q p.1 p.2) (h':F'.length=G'.length/\∀p∈F'.zip G',Q p.1 p.2):(F++F').length=(G++G').length/\∀p∈(F++F').zip (G++G'),Q p.1 p.2:=by
 refine⟨by simp[h.1,h'.1],fun p hp=>?_⟩;rw[List.zip_append h.1] at hp;rcases List.mem_append.1 hp with hp|hp
 ·exact h.2 p hp
 ·exact h'.2 p hp
theorem zKy {Q:Fr->Int->Prop} {pl:List Nd} {node:Int} {W:Nat} {sf ep:Int} {z:List Et} {m:Int}:∀{r:List Int} {s:Nat},(∀(j:Nat),r[j]? = some node->∀(i:Nat) p,(zDj pl W sf z m)[i]? = some p->p≠[]->Q ⟨1,m,((s+j:Nat):Int),ep,p,[]⟩ (i:Int))->(qQ pl node W sf ep z m s r).1.length=(qQ pl node W sf ep z m s r).2.length/\∀p∈(qQ pl node W sf ep z m s r).1.zip (qQ pl node W sf ep z m s r).2,Q p.1 p.2
 | [],s,_=>by simp[qQ]
 | x::r,s,h=>by
  have ih:=zKy (Q:=Q) (pl:=pl) (node:=node) (W:=W) (sf:=sf) (ep:=ep) (z:=z) (m:=m) (r:=r) (s:=s+1) (fun j hj i p hp hn=>by
   have:=h (j+1) (by simpa using hj) i p hp hn
   rwa [show s+1+j=s+(j+1) by omega])
  by_cases hx:x=node
  ·rw[zAv hx]
   exact qAy (zI8 (fun i p hp hn=>by
    have:=h 0 (by simp[hx]) i p hp hn
    simpa using this)) ih
  ·rw[zAu hx];exact ih
theorem zMu {Q:Fr->Int->Prop} {pl:List Nd} {node:Int} {W:Nat} {sf ep:Int} {z:List Et}:∀{r:List Int},(∀m∈r,∀(j:Nat),(qB (xH pl m))[j]? = some node->∀(i:Nat) p,(zDj pl W sf z m)[i]? = some p->p≠[]->Q ⟨1,m,(j:Int),ep,p,[]⟩ (i:Int))->(qW pl node W sf ep z r).1.length=(qW pl node W sf ep z r).2.length/\∀p∈(qW pl node W sf ep z r).1.zip (qW pl node W sf ep z r).2,Q p.1 p.2
 | [],_=>by simp[qW]
 | m::r,h=>by
  simp only[qW]
  exact qAy (zKy (fun j hj i p hp hn=>by
   have:=h m (List.mem_cons_self ..) j hj i p hp hn
   simpa using this)) (zMu (fun m' hm=>h m' (List.mem_cons_of_mem _ hm)))
theorem zYh {pl:List Nd} {W:Nat} {sf:Int} {z:List Et} {m:Int} {i:Nat} {p:List Et} (h:(zDj pl W sf z m)[i]? = some p):p.Sublist z/\∀e∈p,zOm pl m W sf e.row=(i:Int):=by
 have hm:=zC1 (List.mem_of_getElem? h);refine⟨hm,fun e he=>?_⟩;unfold zDj jF at h;rw[List.getElem?_map] at h;obtain⟨k,hk,e1⟩:=Option.map_eq_some_iff.1 h
 have hki:k=i:=by
  have:=List.getElem?_range (n:=W) (i:=i) (by
   have:=(List.getElem?_eq_some_iff.1 hk).1
   simpa using this)
  rw[this] at hk;exact(Option.some.inj hk).symm
 subst hki;subst e1
 have:=(List.mem_filter.1 he).2
 exact of_decide_eq_true this
theorem qFr {pl:List Nd} (hk:okN pl) {node m sf:Int} {z:List Et} {ep:Int} (h:zP4 pl node m sf z ep=0):(qW pl node m.toNat sf ep z (qJ node 0 pl)).1.length=(qW pl node m.toNat sf ep z (qJ node 0 pl)).2.length/\∀p∈(qW pl node m.toNat sf ep z (qJ node 0 pl)).1.zip (qW pl node m.toNat sf ep z (qJ node 0 pl)).2,qH9 pl m.toNat sf ep p.1 p.2:=by
 obtain⟨hc,hep,hwf⟩:=zA7 h;obtain⟨hnc,hm1,hm2,hs1,hs2⟩:=jJ hc;obtain⟨hn,hn1,hn2⟩:=jR hnc;have hrow:=zC6 hwf;have hsm:=zX1 hk h
 have hset:zFh z=0:=by
  unfold zOr at hwf;split at hwf
  ·assumption
  ·exact absurd hwf ‹_›
 obtain⟨g1,g2,g3,g4⟩:=jA hk hn;have hwn:=g3 node.toNat (by omega);rw[Int.toNat_of_nonneg hn1] at hwn;refine zMu fun r hr j hj i p hp hne=>?_
 obtain⟨q1,q2,q3⟩:=zGq hk hn hr hrow;obtain⟨psub,pdst⟩:=zYh hp;have hsp:=zQm hset psub;have hpm:∀e∈p,(e.row.length:Int)=at0 (jT pl) node:=fun e he=>hrow e (psub.subset he)
 obtain⟨x,t,rfl⟩:∃x t,p=x::t:=by
  cases p with
  | nil=>exact absurd rfl hne
  | cons x t=>exact⟨x,t,rfl⟩
 have hxm:x∈x::t:=List.mem_cons_self ..;have hsz:=zG4 psub;have hxr:=hpm x hxm
 have hrc:jU pl r m.toNat sf=0:=by
  unfold jU zAm;rw[if_pos hn,if_pos (by simp[inI];omega)];rw[if_pos ⟨by simp[inI];omega,by simp[inI];omega⟩]
 refine⟨?_,rfl,⟨x,t,rfl,by omega,?_⟩,by simp only;omega,rfl⟩
 ·obtain⟨d,hd,_⟩:=zK4 q2 q3
  have hdd:=xZ hd;rw[hdd] at hj;have hop:d.op≠1:=fun e=>by simp[qB,e] at hj
  have hsd:zAi pl r j ep=true/\zKu pl r j=at0 (jT pl) node:=by
   simp only[inI,Bool.and_eq_true,decide_eq_true_eq] at hep;unfold qB at hj;rw[if_neg hop] at hj
   by_cases h46:d.op=4\/d.op=6
   ·rw[if_pos h46] at hj
    match j,hj with
    | 0,hj =>
     simp at hj;exact⟨by simp[zAi,hdd,inI,hop];omega,by simp[zKu,hdd,hj]⟩
    | 1,hj =>
     simp at hj;exact⟨by simp[zAi,hdd,inI,hop];omega,by simp[zKu,hdd,hj]⟩
    | j+2,hj=>simp at hj
   ·rw[if_neg h46] at hj
    match j,hj with
    | 0,hj =>
     simp at hj;exact⟨by simp[zAi,hdd,inI,hop];omega,by simp[zKu,hdd,hj]⟩
    | j+1,hj=>simp at hj
  have hwz:zOr (x::t) (at0 (jT pl) node)=0:=by
   unfold zOr
   rw[if_pos hsp,if_pos (by
    rw[List.all_eq_true];intro e he
    simpa using hpm e he)]
  unfold frN0 frC;rw[if_pos hn];simp only[if_true];unfold zRp;rw[if_pos hsd.1,hsd.2,if_pos hwz];simp
 ·have hrf:=((zGf hsp).2.1 x hxm).1
  have hlx:¬(x.row.length:Int)<zEk pl r:=by
   have:=List.any_eq_false.1 (show(z.any fun e=>decide ((e.row.length:Int)<zEk pl r))=false from q1) x (psub.subset hxm)
   simpa using this
  unfold zTs;rw[if_pos hrc,if_pos hrf,if_neg hlx];exact pdst x hxm
theorem zPe:∀(l:List (List Et)),(neP l).flatten=l.flatten
 | []=>rfl
 | p::r=>by
  have ih:=zPe r;unfold neP at ih ⊢
  by_cases h:p=[]
  ·subst h;rw[List.filter_cons_of_neg (by simp),ih];simp
  ·rw[List.filter_cons_of_pos (by simpa using h),List.flatten_cons,ih,List.flatten_cons]
theorem zTc {f:List Int->Int} {m:Nat} {z:List Et} (hm:m<=16) (h:zFh z=0) (hf:∀e∈z,0<=f e.row/\f e.row<m):vN (neP (jF f m z))=(0,z):=by
 have hl:(neP (jF f m z)).length<=16:=Nat.le_trans (List.length_filter_le _ _) (by simp;omega);unfold vN;rw[if_neg (by omega),if_pos (zMe (L:=neP (jF f m z)) (fun q hq=>zQm h (zC1 (List.mem_filter.1 hq).1))),zPe,zZn h (zS8 hf)]
theorem qEb:vN []=(0,[]):=by
 unfold vN;rw[if_neg (by simp),if_pos (show zB9 []=0 from rfl)]
 rfl
theorem zSi {pl:List Nd} (hk:okN pl) {node m sf:Int} {z:List Et} {ep:Int} (h:zP4 pl node m sf z ep=0) {r:Int} (hr:r∈qJ node 0 pl) {s:Nat} (hs:s<=1):vN (zE0 r s (qW pl node m.toNat sf ep z (qJ node 0 pl)).1)=(0,if zBo pl r s node=true then z else []):=by
 obtain⟨hc,hep,hwf⟩:=zA7 h;obtain⟨hnc,hm1,hm2,hs1,hs2⟩:=jJ hc;obtain⟨hn,hn1,hn2⟩:=jR hnc
 have hset:zFh z=0:=by
  unfold zOr at hwf;split at hwf
  ·assumption
  ·exact absurd hwf ‹_›
 obtain⟨q1,q2,q3⟩:=zGq hk hn hr (zC6 hwf)
 have hrc:jU pl r m.toNat sf=0:=by
  unfold jU zAm;rw[if_pos hn,if_pos (by simp[inI];omega)];rw[if_pos ⟨by simp[inI];omega,by simp[inI];omega⟩]
 rw[qAf hs zBs hr];split
 ·exact zTc (by omega) hset (fun e _=>zO7 hrc)
 ·exact qEb
theorem qFu (pl:List Nd) (a:Int) (hp:pl.length<2000000) (hk:okN pl) (h:zAm pl a=0):oc.call 11 [.lst false 0 (nds false 0 pl),.int .i64 a]=some (.agg [.int .i64 0,.lst true 1 (ints (qJ a 0 pl))],[]):=by
 refine qA rfl cd11 rfl rfl rfl (by simp;rfl) (by simp;rfl) ?_;refine wa_ (zB (w_ (al (h:=nE (h:=zA (wa_ (wa_ (zB (wM (h:=wM (h:=w_ (ca (hc:=zVw pl a hp hk) (h:=wM (h:=?_))))))))))))));refine w_ (ex (h:=w_ (ex (h:=W3 (h:=W3 (h:=nE (h:=zA (wa_ (zB (wM (h:=w_ (bE (h:=nE (h:=zA ?_))))))))))))));refine c_ (h1:=?_) (h2:=?_)
 rotate_right 1
 focus
  intro c1;first|exact dn c1|(
   have d1:=c1;try simp at d1
   refine zC ?_)
 rotate_right 1
 focus
  intro c1;first|exact dn c1|(
   have d1:=c1;try simp at d1
   refine wa_ (zB (wM (h:=w_ (bd (h:=w0 (s_ (h:=nE (h:=zA (zF ?_))))))))))
 all_goals first|refine zK ?_|(
  refine zA ?_;refine wa_ (zB (wM (h:=wM (h:=w_ (ca (hc:=zJ3 pl a hp hk) (h:=w_ (bd (h:=w0 (s_ (h:=nE (h:=zA (zF ?_)))))))))))))
 all_goals (refine qX (hr:=(vY (tys_ok.zero _ _ rfl) rfl (by simp;rfl) (by rfl) zM)) (h:=?_);(focus (first|(simp;done)|(simp at *;omega))))
@[simp] theorem Fr.ne_undH (t:Bool) (x:Fr):(x.v t=V.und)=False:=by simp[Fr.v]
theorem qI4 {L:List Fr} {G:List Int} {k:Nat} {f:Fr} (h:L[k]? = some f) (hl:L.length=G.length):∃g,G[k]? = some g/\(f,g)∈L.zip G:=by
 have hk:=(List.getElem?_eq_some_iff.1 h).1;refine⟨G[k]'(by omega),by simp,?_⟩;refine List.mem_of_getElem? (i:=k) ?_;rw[List.getElem?_zip_eq_some];exact⟨h,by simp⟩
theorem l_fk (pl:List Nd) (node sf ep:Int) (W:Nat) (z:List Et) (L:List Fr) (G rds:List Int) (i sd:Nat) (rd:Int) (hp:pl.length<2000000) (hk:okN pl) (hL:L.length<=48) (hlg:G.length=L.length) (hok:∀p∈L.zip G,qH9 pl W sf ep p.1 p.2) (hrd:rds[i]? = some rd) (hrl:rds.length<=9):∀x:Nat×(List (List Et)),(x.1<=L.length/\x.2.length<=x.1)->∀s,zH 1 (some [3,4,5,6,7,8,9,10,11,12,13,14]) s=⟨[(3,.lst false 0 (nds false 0 pl)),(4,.int .i64 node),(5,.int .i64 W),(6,.int .i64 sf),(7,.lst false 0 (ets false z)),(8,.int .i64 ep),(9,.ptr 1 0 []),(10,.ref 2 0 rds.length),(11,.int .i64 i),(12,.int .i64 sd),(13,.ref 3 0 x.2.length),(14,.int .i64 x.1)],[(1,⟨true,false,3,[.agg [.int .i64 0,.ref 4 0 L.length,.ref 5 0 L.length]],0⟩),(2,⟨false,false,1,ints rds,0⟩),(3,⟨false,false,1,yG false x.2,0⟩),(4,⟨false,false,6,frs false L,0⟩),(5,⟨false,false,1,ints G,0⟩)],6⟩ ->
 oc.loop 3 18 s=some (.exit 4,⟨[(3,.lst false 0 (nds false 0 pl)),(4,.int .i64 node),(5,.int .i64 W),(6,.int .i64 sf),(7,.lst false 0 (ets false z)),(8,.int .i64 ep),(9,.ptr 1 0 []),(10,.ref 2 0 rds.length),(11,.int .i64 i),(12,.int .i64 sd),(13,.ref 3 0 (x.2++zE0 rd sd (L.drop x.1)).length)],[(1,⟨true,false,3,[.agg [.int .i64 0,.ref 4 0 L.length,.ref 5 0 L.length]],0⟩),(2,⟨false,false,1,ints rds,0⟩),(3,⟨false,false,1,yG false (x.2++zE0 rd sd (L.drop x.1)),0⟩),(4,⟨false,false,6,frs false L,0⟩),(5,⟨false,false,1,ints G,0⟩)],6⟩):=by
 refine zV (σ:=Nat×(List (List Et))) (fun x=>L.length - x.1) _ (fun x=>⟨[(3,.lst false 0 (nds false 0 pl)),(4,.int .i64 node),(5,.int .i64 W),(6,.int .i64 sf),(7,.lst false 0 (ets false z)),(8,.int .i64 ep),(9,.ptr 1 0 []),(10,.ref 2 0 rds.length),(11,.int .i64 i),(12,.int .i64 sd),(13,.ref 3 0 x.2.length),(14,.int .i64 x.1)],[(1,⟨true,false,3,[.agg [.int .i64 0,.ref 4 0 L.length,.ref 5 0 L.length]],0⟩),(2,⟨false,false,1,ints rds,0⟩),(3,⟨false,false,1,yG false x.2,0⟩),(4,⟨false,false,6,frs false L,0⟩),(5,⟨false,false,1,ints G,0⟩)],6⟩) _ ?_;rintro⟨k,A⟩ hi ih s hs;simp only at hi;refine qD cd3 rfl rfl hs ?_;obtain⟨hi1,hi2⟩:=hi;have gr:=zFs hrd;have hil:i<rds.length:=(List.getElem?_eq_some_iff.1 hrd).1;refine wa_ (wa_ (zB (wM (h:=w_ (f_ (h:=w_ (l_ (h:=w_ (le (h:=w_ (b_ (h:=nE (h:=zA ?_)))))))))))));refine c_ (h1:=?_) (h2:=?_)
 rotate_right 1
 focus
  intro c1;first|exact dn c1|(
   have d1:=c1;try simp at d1
   refine zW ?_)
 rotate_right 1
 focus
  intro c1;first|exact dn c1|(
   have d1:=c1;try simp at d1
   have hw:=zU (i:=k) (by omega);obtain⟨f,hx,e1,g1⟩:=qC5 (t:=false) (l:=L) (i:=k) (by omega);obtain⟨g,hg,hm⟩:=qI4 hx hlg.symm;have gg:=zFs hg;obtain⟨q1,q2,⟨x,r,q3,q4,q5⟩,q6,q7⟩:=hok _ hm;obtain⟨fk,fn,fs,fe,fset,fnews⟩:=f;simp only at q1 q2 q3 q4 q5 q6 q7;subst q2 q7;have hff:=qAa pl ⟨fk,fn,fs,fe,fset,[]⟩ hp hk (by unfold w_Fr;simp;omega);rw[q1] at hff;have gS:(ets false fset)[(0:Int).toNat]? = some (V.agg [.lst false 0 (ints x.row),.int .i64 x.w]):=(by rw[q3];rfl);clear q3 q1;have hgo:=qDs pl fn W sf x.row hp hk (by omega);rw[q5] at hgo;refine zC ?_)
 all_goals first|refine zR ?_|(
  refine zA ?_;refine wa_ (zG (wa_ (zB (w_ (f_ (h:=w_ (l_ (h:=wM (h:=w_ (x_ (h:=w_ (l_ (h:=w_ (al (h:=w0 (s_ (h:=nE (h:=?_))))))))))))))))));refine zA (wa_ (wa_ (qE (y_ (f_ (h:=ax_ (h:=y_ (l_ (h:=ax_ (h:=yM (h:=yM (h:=y_ (x_ (h:=ax_ (h:=y_ (l_ (h:=ax_ (h:=y_ (bE (h:=ax_ (h:=yM (h:=?_))))))))))))))))))))));refine gw_ (h1:=?_) (h2:=?_)
  rotate_right 1
  focus
   intro c2;first|exact dn c2|(
    have d2:=c2;try simp at d2
    refine gd_ (h:=gd_ (h:=gd_ (h:=gd_ (h:=?_)))))
  rotate_right 1
  focus
   intro c2;first|exact dn c2|(
    have d2:=c2;try simp at d2
    refine g_ (h:=y_ (f_ (h:=ax_ (h:=g_ (h:=y_ (l_ (h:=ax_ (h:=g_ (h:=yM (h:=g_ (h:=y_ (bE (h:=ax_ (h:=?_)))))))))))))))
  all_goals
   refine y_ (pk (h:=ax_ (h:=qO (ed (h:=?_)))))
  all_goals first
  | (
   refine zA ?_;refine c_ (h1:=?_) (h2:=?_)
   rotate_right 1
   focus
    intro c3;first|exact dn c3|(
     have d3:=c3;try simp at d3
     refine zC ?_)
   rotate_right 1
   focus
    intro c3;first|exact dn c3|(
     have d3:=c3;try simp at d3
     refine zW ?_))
  all_goals first|refine zR ?_|(
   refine zA ?_;refine wa_ (wa_ (qE (yM (h:=y_ (l_ (h:=ax_ (h:=y_ (ca (hc:=hff) (h:=ax_ (h:=y_ (bE (h:=ax_ (h:=yM (h:=?_))))))))))))));refine gw_ (h1:=?_) (h2:=?_)
   rotate_right 1
   focus
    intro c4;first|exact dn c4|(
     have d4:=c4;try simp at d4
     refine gd_ (h:=gd_ (h:=gd_ (h:=gd_ (h:=?_)))))
   rotate_right 1
   focus
    intro c4;first|exact dn c4|(
     have d4:=c4;try simp at d4
     refine g_ (h:=y_ (f_ (h:=ax_ (h:=g_ (h:=y_ (l_ (h:=ax_ (h:=g_ (h:=yM (h:=g_ (h:=y_ (bE (h:=ax_ (h:=?_)))))))))))))))
   all_goals
    refine y_ (pk (h:=ax_ (h:=yM (h:=?_))));refine gw_ (h1:=?_) (h2:=?_)
    rotate_right 1
    focus
     intro c5;first|exact dn c5|(
      have d5:=c5;try simp at d5
      refine gd_ (h:=gd_ (h:=gd_ (h:=gd_ (h:=gd_ (h:=gd_ (h:=gd_ (h:=gd_ (h:=gd_ (h:=gd_ (h:=gd_ (h:=gd_ (h:=?_))))))))))));refine gd_ (h:=gd_ (h:=gd_ (h:=gd_ (h:=gd_ (h:=gd_ (h:=?_)))))))
    rotate_right 1
    focus
     intro c5;first|exact dn c5|(
      have d5:=c5;try simp at d5
      refine g_ (h:=yM (h:=g_ (h:=y_ (f_ (h:=ax_ (h:=g_ (h:=y_ (l_ (h:=ax_ (h:=g_ (h:=yM (h:=g_ (h:=yM (h:=g_ (h:=y_ (f_ (h:=ax_ (h:=g_ (h:=y_ (l_ (h:=ax_ (h:=g_ (h:=y_ (x_ (h:=ax_ (h:=g_ (h:=y_ (f_ (h:=ax_ (h:=g_ (h:=y_ (l_ (h:=ax_ (h:=g_ (h:=y_ (ca (hc:=hgo) (h:=ax_ (h:=g_ (h:=y_ (fi (h:=ax_ (h:=?_))))))))))))))))))))))))))))))))))))))))));refine g_ (h:=y_ (f_ (h:=ax_ (h:=g_ (h:=y_ (l_ (h:=ax_ (h:=g_ (h:=yM (h:=g_ (h:=y_ (x_ (h:=ax_ (h:=g_ (h:=y_ (l_ (h:=ax_ (h:=g_ (h:=y_ (bE (h:=ax_ (h:=?_)))))))))))))))))))))))
    all_goals
     refine y_ (pk (h:=ax_ (h:=qO (ed (h:=?_)))))
   all_goals first
   | (
    refine zA ?_;refine c_ (h1:=?_) (h2:=?_)
    rotate_right 1
    focus
     intro c6;first|exact dn c6|(
      have d6:=c6;try simp at d6
      refine zC ?_)
    rotate_right 1
    focus
     intro c6;first|exact dn c6|(
      have d6:=c6;try simp at d6
      refine wa_ (zB (W3 (h:=nE (h:=zA (zF ?_)))))))
   all_goals first|refine zK ?_|(
    refine zA ?_;refine zB (wM (h:=w_ (f_ (h:=w_ (l_ (h:=w_ (bs (h:=w_ (ap (h:=W3 (h:=nE (h:=?_))))))))))))))
  all_goals first|refine zI ?_|refine zX ?_|refine zS ?_
  all_goals first|refine zK ?_|(
   refine zA ?_;refine zB (wM (h:=w_ (b_ (h:=W3 (h:=nE (h:=?_))))))))
 all_goals first
 | (refine(ih ((k+1,A++[fset])) (⟨by simp only;omega,by simp;omega⟩) ?_ _ ?_).trans ?_;(focus (first|omega|(simp;done)|(simp;omega)));(focus (simp[zH,hw];done));(focus (rw[e1,zTy (by simp;omega)];simp)))
 | (refine(ih ((k+1,A)) (⟨by simp only;omega,by simp only;omega⟩) ?_ _ ?_).trans ?_;(focus (first|omega|(simp;done)|(simp;omega)));(focus (simp[zH,hw];done));(focus (rw[e1,zUb (by simp;omega)])))
 | (apply zP (ex:=(Ext.exit 4)) 1 (some [2,3,4,5,6,7,8,9,10,11,12,13]);(focus (simp[zH];rfl));(focus (rw[List.drop_eq_nil_of_le (by omega)];simp[vH])))
theorem qB6 {pl:List Nd} {W:Nat} {sf ep:Int} {m t:Int}:∀{L:List Fr} {G:List Int},L.length=G.length->(∀p∈L.zip G,qH9 pl W sf ep p.1 p.2)->zB8 (zE0 m t L)<=1001 * L.length/\(zE0 m t L).length<=L.length
 | [],G,_,_=>by simp[zE0,zB8,wS]
 | f::L,[],h,_=>by simp at h
 | f::L,g::G,h,hq=>by
  obtain⟨ih1,ih2⟩:=qB6 (m:=m) (t:=t) (L:=L) (G:=G) (by simpa using h) (fun p hp=>hq p (by rw[List.zip_cons_cons];exact List.mem_cons_of_mem _ hp));have h1:=(hq (f,g) (by rw[List.zip_cons_cons];exact List.mem_cons_self ..)).2.2.2.1
  by_cases e:f.node=m/\f.side=t
  ·rw[zTy e]
   unfold zB8 at ih1 ⊢;simp only[List.length_cons,zBw] at *;omega
  ·rw[zUb e]
   simp only[List.length_cons];omega
theorem qLq (a b:Int):(a==b)=decide (a=b):=by by_cases h:a=b<;>simp[h]
theorem zP3 {pl:List Nd} {m node:Int} (h:(xH pl m).op≠1):zBo pl m 0 node=decide ((xH pl m).a=node):=by
 unfold zBo qB;rw[if_neg h]
 split<;>simp[qLq]
theorem zR8 {pl:List Nd} {m node:Int} (h:(xH pl m).op≠1):zBo pl m 1 node=decide ((xH pl m).b=node/\((xH pl m).op=6\/(xH pl m).op=4)):=by
 unfold zBo qB;rw[if_neg h];split
 ·rename_i h2
  have:(xH pl m).op=6\/(xH pl m).op=4:=h2.symm
  simp[this,qLq]
 ·rename_i h2
  have:¬((xH pl m).op=6\/(xH pl m).op=4):=fun h=>h2 h.symm
  simp[this]
theorem l_fs (pl:List Nd) (node sf ep:Int) (W:Nat) (z:List Et) (L:List Fr) (G rds:List Int) (i:Nat) (rd:Int) (hp:pl.length<2000000) (hk:okN pl) (hL:L.length<=48) (hlg:G.length=L.length) (hok:∀p∈L.zip G,qH9 pl W sf ep p.1 p.2) (hrd:rds[i]? = some rd) (hrl:rds.length<=9) (hr0:0<=rd) (hr1:rd<pl.length) (hop:(xH pl rd).op≠1) (hz:z.length<=201) (hz2:∀x∈z,x.row.length<=8) (hmg:∀q:Nat,q<=1->vN (zE0 rd q L)=(0,if zBo pl rd q node=true then z else [])):∀sd:Nat,(sd<=2)->∀s,zH 1 (some [3,4,5,6,7,8,9,10,11,12]) s=⟨[(3,.lst false 0 (nds false 0 pl)),(4,.int .i64 node),(5,.int .i64 W),(6,.int .i64 sf),(7,.lst false 0 (ets false z)),(8,.int .i64 ep),(9,.ptr 1 0 []),(10,.ref 2 0 rds.length),(11,.int .i64 i),(12,.int .i64 sd)],[(1,⟨true,false,3,[.agg [.int .i64 0,.ref 3 0 L.length,.ref 4 0 L.length]],0⟩),(2,⟨false,false,1,ints rds,0⟩),(3,⟨false,false,6,frs false L,0⟩),(4,⟨false,false,1,ints G,0⟩)],5⟩ ->
 oc.loop 3 14 s=some (.exit 2,⟨[(3,.lst false 0 (nds false 0 pl)),(4,.int .i64 node),(5,.int .i64 W),(6,.int .i64 sf),(7,.lst false 0 (ets false z)),(8,.int .i64 ep),(9,.ptr 1 0 []),(10,.ref 2 0 rds.length),(11,.int .i64 i)],[(1,⟨true,false,3,[.agg [.int .i64 0,.ref 3 0 L.length,.ref 4 0 L.length]],0⟩),(2,⟨false,false,1,ints rds,0⟩),(3,⟨false,false,6,frs false L,0⟩),(4,⟨false,false,1,ints G,0⟩)],5⟩):=by
 refine zV (σ:=Nat) (fun sd=>2 - sd) _ (fun sd=>⟨[(3,.lst false 0 (nds false 0 pl)),(4,.int .i64 node),(5,.int .i64 W),(6,.int .i64 sf),(7,.lst false 0 (ets false z)),(8,.int .i64 ep),(9,.ptr 1 0 []),(10,.ref 2 0 rds.length),(11,.int .i64 i),(12,.int .i64 sd)],[(1,⟨true,false,3,[.agg [.int .i64 0,.ref 3 0 L.length,.ref 4 0 L.length]],0⟩),(2,⟨false,false,1,ints rds,0⟩),(3,⟨false,false,6,frs false L,0⟩),(4,⟨false,false,1,ints G,0⟩)],5⟩) _ ?_;intro sd hi ih s hs;refine qD cd3 rfl rfl hs ?_;have gr:=zFs hrd;have hil:i<rds.length:=(List.getElem?_eq_some_iff.1 hrd).1;obtain⟨d,hd,gd⟩:=zK4 hr0 hr1;have hnd:=xZ hd;rw[hnd] at hop;refine wa_ (wa_ (zB (wM (h:=w_ (b_ (h:=nE (h:=zA ?_)))))));refine c_ (h1:=?_) (h2:=?_)
 rotate_right 1
 focus
  intro c1;first|exact dn c1|(
   have d1:=c1;try simp at d1
   refine zW ?_)
 rotate_right 1
 focus
  intro c1;first|exact dn c1|(
   have d1:=c1;try simp at d1
   have hw:=zU (i:=sd) (by omega);obtain⟨w1,w2⟩:=qB6 (m:=rd) (t:=sd) hlg.symm hok;have hme:=zZe (zE0 rd sd L) (by omega);rw[hmg sd (by simp at *;omega)] at hme;obtain⟨Y,hY⟩:∃Y,(if zBo pl rd sd node=true then z else [])=Y:=⟨_,rfl⟩;rw[hY] at hme;have hR1:((sd:Int)=1->d.b=node/\(d.op=6\/d.op=4))->(¬(sd:Int)=1->d.a=node)->Y=z:=(by intro h1 h2;rw[<-hY,if_pos];rcases(by simp at *;omega:sd=0\/sd=1) with rfl|rfl;(focus (rw[zP3 (by rw[hnd];exact hop),hnd];simpa using h2 (by omega)));(focus (rw[zR8 (by rw[hnd];exact hop),hnd];simpa using h1 (by omega))));have hR0:((sd:Int)=1->¬(d.b=node/\(d.op=6\/d.op=4)))->(¬(sd:Int)=1->¬d.a=node)->Y=[]:=(by intro h1 h2;rw[<-hY,if_neg];rcases(by simp at *;omega:sd=0\/sd=1) with rfl|rfl;(focus (rw[zP3 (by rw[hnd];exact hop),hnd];have:=h2 (by omega);simpa using this));(focus (rw[zR8 (by rw[hnd];exact hop),hnd];have:=h1 (by omega);simpa using this)));have hYl:Y.length<=201/\∀x∈Y,x.row.length<=8:=(by subst hY;split;exact⟨hz,hz2⟩;exact⟨by simp,fun x hx=>by cases hx⟩);have hs:=qFz Y z (by omega) (by omega) (fun x hx=>by have:=hYl.2 x hx;omega) (fun x hx=>by have:=hz2 x hx;omega);refine zC ?_)
 all_goals first|refine zR ?_|(
  refine zA ?_;refine wa_ (zG (wa_ (zB (w_ (bs (h:=W3 (h:=nE (h:=zA (wa_ (wa_ (zB (W3 (h:=?_)))))))))))));refine nE (h:=zA (zG ?_));refine qH (l_fk pl node sf ep W z L G rds i sd rd hp hk hL hlg hok hrd hrl (0,[]) ⟨by omega,by simp⟩ _ (by simp[zH])) ?_
  first|refine zX ?_|refine zS ?_
  all_goals first|refine zK ?_|(
   refine zA ?_;refine wa_ (zB (wM (h:=wM (h:=wM (h:=w_ (x_ (h:=w_ (l_ (h:=w_ (x_ (h:=w_ (f_ (h:=w_ (l_ (h:=wM (h:=w_ (bE (h:=?_))))))))))))))))));refine W3 (h:=nE (h:=zA (wa_ (wa_ (zB (wM (h:=w_ (bE (h:=nE (h:=zA ?_))))))))));refine c_ (h1:=?_) (h2:=?_)
   rotate_right 1
   focus
    intro c2;first|exact dn c2|(
     have d2:=c2;try simp at d2
     refine zC ?_)
   rotate_right 1
   focus
    intro c2;first|exact dn c2|(
     have d2:=c2;try simp at d2
     refine zB (wM (h:=wM (h:=wM (h:=w_ (x_ (h:=w_ (l_ (h:=w_ (x_ (h:=w_ (f_ (h:=w_ (l_ (h:=wM (h:=w_ (bE (h:=wM (h:=?_))))))))))))))))));refine gw_ (h1:=?_) (h2:=?_)
     rotate_right 1
     focus
      intro c3;first|exact dn c3|(
       have d3:=c3;try simp at d3
       refine go_ (h:=go_ (h:=go_ (h:=go_ (h:=go_ (h:=go_ (h:=go_ (h:=go_ (h:=go_ (h:=go_ (h:=?_)))))))))))
     rotate_right 1
     focus
      intro c3;first|exact dn c3|(
       have d3:=c3;try simp at d3
       refine g_ (h:=wM (h:=g_ (h:=wM (h:=g_ (h:=wM (h:=g_ (h:=w_ (x_ (h:=g_ (h:=w_ (l_ (h:=g_ (h:=w_ (x_ (h:=g_ (h:=w_ (f_ (h:=g_ (h:=w_ (l_ (h:=g_ (h:=w_ (bE (h:=g_ (h:=wM (h:=?_)))))))))))))))))))))))))))
     all_goals
      first
      | (
       skip
       refine goN (h:=goN (h:=goN (h:=goN (h:=goN (h:=goN (h:=goN (h:=goN (h:=goN (h:=?_))))))))))
      | (
       refine gw_ (h1:=?_) (h2:=?_)
       rotate_right 1
       focus
        intro c4;first|exact dn c4|(
         have d4:=c4;try simp at d4
         refine go_ (h:=go_ (h:=go_ (h:=go_ (h:=go_ (h:=go_ (h:=go_ (h:=go_ (h:=go_ (h:=?_))))))))))
       rotate_right 1
       focus
        intro c4;first|exact dn c4|(
         have d4:=c4;try simp at d4
         refine g_ (h:=wM (h:=g_ (h:=wM (h:=g_ (h:=wM (h:=g_ (h:=w_ (x_ (h:=g_ (h:=w_ (l_ (h:=g_ (h:=w_ (x_ (h:=g_ (h:=w_ (f_ (h:=g_ (h:=w_ (l_ (h:=g_ (h:=w_ (bE (h:=?_))))))))))))))))))))))))))
      all_goals
       first
       | (
        skip
        refine g_ (h:=w_ (pk (h:=?_))))
       | (
        skip
        refine go_ (h:=?_))
       all_goals
        refine w_ (pk (h:=W3 (h:=nE (h:=?_)))))
   all_goals first
   | (
    refine zA ?_;refine wa_ (zB (wM (h:=w_ (ca (hc:=hme) (h:=w_ (al (h:=w0 (s_ (h:=nE (h:=zA (wa_ (zB (w_ (f_ (h:=w_ (l_ (h:=?_)))))))))))))))));refine w_ (bE (h:=wM (h:=?_)));refine gw_ (h1:=?_) (h2:=?_)
    rotate_right 1
    focus
     intro c5;first|exact dn c5|(
      have d5:=c5;try simp at d5
      refine go_ (h:=go_ (h:=?_)))
    rotate_right 1
    focus
     intro c5;first|exact dn c5|(
      have d5:=c5;try simp at d5
      refine g_ (h:=wM (h:=g_ (h:=wM (h:=?_)))))
    all_goals
     first
     | (
      skip
      refine goN (h:=goN (h:=goN (h:=goN (h:=goN (h:=?_))))))
     | (
      refine gw_ (h1:=?_) (h2:=?_)
      rotate_right 1
      focus
       intro c6;first|exact dn c6|(
        have d6:=c6;try simp at d6
        refine go_ (h:=go_ (h:=go_ (h:=go_ (h:=go_ (h:=?_))))))
      rotate_right 1
      focus
       intro c6;first|exact dn c6|(
        have d6:=c6;try simp at d6
        refine g_ (h:=w_ (f_ (h:=g_ (h:=w_ (l_ (h:=g_ (h:=wM (h:=g_ (h:=w_ (ca (hc:=hs) (h:=g_ (h:=w_ (u_ (h:=?_))))))))))))))))
     all_goals
      first
      | (
       skip
       refine g_ (h:=w_ (pk (h:=?_))))
      | (
       skip
       refine go_ (h:=?_))
      all_goals
       refine w_ (pk (h:=wM (h:=?_)));refine gw_ (h1:=?_) (h2:=?_)
       rotate_right 1
       focus
        intro c7;first|exact dn c7|(
         have d7:=c7;try simp at d7
         refine go_ (h:=go_ (h:=go_ (h:=?_))))
       rotate_right 1
       focus
        intro c7;first|exact dn c7|(
         have d7:=c7;try simp at d7
         refine g_ (h:=wM (h:=g_ (h:=w_ (u_ (h:=g_ (h:=wM (h:=?_))))))))
       all_goals
        first
        | (
         skip
         refine goN (h:=goN (h:=goN (h:=goN (h:=?_)))))
        | (
         refine gw_ (h1:=?_) (h2:=?_)
         rotate_right 1
         focus
          intro c8;first|exact dn c8|(
           have d8:=c8;try simp at d8
           refine go_ (h:=go_ (h:=go_ (h:=go_ (h:=?_)))))
         rotate_right 1
         focus
          intro c8;first|exact dn c8|(
           have d8:=c8;try simp at d8
           refine g_ (h:=w_ (f_ (h:=g_ (h:=w_ (l_ (h:=g_ (h:=w_ (le (h:=g_ (h:=w_ (b_ (h:=?_))))))))))))))
        all_goals
         first
         | (
          skip
          refine g_ (h:=w_ (pk (h:=?_))))
         | (
          skip
          refine go_ (h:=?_))
         all_goals
          refine w_ (pk (h:=nE (h:=?_)))
    all_goals first
    | (
     refine zA ?_;refine c_ (h1:=?_) (h2:=?_)
     rotate_right 1
     focus
      intro c9;first|exact dn c9|(
       have d9:=c9;try simp at d9
       refine zC ?_)
     rotate_right 1
     focus
      intro c9;first|exact dn c9|(
       have d9:=c9;try simp at d9
       exfalso;first|exact ‹¬Y=z› (hR1 (fun h=>by omega) (fun h=>by omega))|(have:=hR0 (fun h=>by omega) (fun h=>by omega);subst this;simp at d9)))))
  all_goals first|refine zI ?_|refine zX ?_
  all_goals first|refine zK ?_|(
   refine zA ?_;refine zB (wM (h:=w_ (b_ (h:=W3 (h:=nE (h:=?_))))))))
 all_goals first
 | (refine(ih (sd+1) (by omega) ?_ _ ?_).trans ?_;(focus (first|omega|(simp;done)|(simp;omega)));(focus (simp[zH,hw];done));(focus (rfl)))
 | (apply zP (ex:=(Ext.exit 2)) 1 (some [2,3,4,5,6,7,8,9,10,11]);(focus (simp[zH];rfl));(focus (rfl)))
end Go.Proofs.YtbcgenkegnmkhaaGreat.Ev
namespace Go.Proofs.YtbcgenkegnmkhaaGreat.Ev
open Go
set_option maxRecDepth 100000
set_option linter.unusedSimpArgs false
set_option linter.unusedVariables false
set_option maxHeartbeats 2000000
def okBy (c:List Int):Prop:=c.length<=140737488351232/\∀x∈c,0<=x/\x<256
theorem zRy {t:TypeId} {n:Nat} {v:V} (hu:Tryz.prog.underlying t=some (.int .u8)) (h:zKl Tryz.prog (n+1) t v):∃m,v = .int .u8 m/\(0<=m/\m<256):=by
 obtain⟨m,e,h1,h2⟩:=qBz hu h;exact⟨m,e,by simp[IntKind.min,IntKind.max,IntKind.signed,IntKind.bits] at h1 h2;omega⟩
theorem dBytes {n:Nat} {v:V} (h:zKl Tryz.prog (n+2) 22 v):∃l,v = .lst false 0 (bys l)/\okBy l:=by
 obtain⟨xs,e,h1,h2⟩:=zVs Tryz.underlying22 h;obtain⟨l,e2,h3⟩:=zQb (f:=fun m=>V.int .u8 m) (p:=fun m=>0<=m/\m<256) (fun x hx=>by have q:=h2 x hx;first|exact zRy Tryz.underlying5 q|exact zRy Tryz.underlying3 q|exact zRy Tryz.underlying4 q|exact zRy Tryz.underlying6 q|exact zRy Tryz.underlying7 q|exact zRy Tryz.underlying8 q);exact⟨l,by rw[e,e2];rfl,by rw[e2] at h1;simpa using h1,h3⟩
theorem l_fi (pl:List Nd) (node sf ep:Int) (W:Nat) (z:List Et) (L:List Fr) (G rds:List Int) (hp:pl.length<2000000) (hk:okN pl) (hL:L.length<=48) (hlg:G.length=L.length) (hok:∀p∈L.zip G,qH9 pl W sf ep p.1 p.2) (hrl:rds.length<=9) (hz:z.length<=201) (hz2:∀x∈z,x.row.length<=8) (hall:∀rd∈rds,0<=rd/\rd<pl.length/\(xH pl rd).op≠1/\∀q:Nat,q<=1->vN (zE0 rd q L)=(0,if zBo pl rd q node=true then z else [])):∀i:Nat,(i<=rds.length)->∀s,zH 1 (some [3,4,5,6,7,8,9,10,11]) s=⟨[(3,.lst false 0 (nds false 0 pl)),(4,.int .i64 node),(5,.int .i64 W),(6,.int .i64 sf),(7,.lst false 0 (ets false z)),(8,.int .i64 ep),(9,.ptr 1 0 []),(10,.ref 2 0 rds.length),(11,.int .i64 i)],[(1,⟨true,false,3,[.agg [.int .i64 0,.ref 3 0 L.length,.ref 4 0 L.length]],0⟩),(2,⟨false,false,1,ints rds,0⟩),(3,⟨false,false,6,frs false L,0⟩),(4,⟨false,false,1,ints G,0⟩)],5⟩ ->
 oc.loop 3 11 s=some (.exit 0,⟨[(3,.lst false 0 (nds false 0 pl)),(4,.int .i64 node),(5,.int .i64 W),(6,.int .i64 sf),(7,.lst false 0 (ets false z)),(8,.int .i64 ep),(9,.ptr 1 0 [])],[(1,⟨true,false,3,[.agg [.int .i64 0,.ref 2 0 L.length,.ref 3 0 L.length]],0⟩),(2,⟨false,false,6,frs false L,0⟩),(3,⟨false,false,1,ints G,0⟩)],4⟩):=by
 refine zV (σ:=Nat) (fun i=>rds.length - i) _ (fun i=>⟨[(3,.lst false 0 (nds false 0 pl)),(4,.int .i64 node),(5,.int .i64 W),(6,.int .i64 sf),(7,.lst false 0 (ets false z)),(8,.int .i64 ep),(9,.ptr 1 0 []),(10,.ref 2 0 rds.length),(11,.int .i64 i)],[(1,⟨true,false,3,[.agg [.int .i64 0,.ref 3 0 L.length,.ref 4 0 L.length]],0⟩),(2,⟨false,false,1,ints rds,0⟩),(3,⟨false,false,6,frs false L,0⟩),(4,⟨false,false,1,ints G,0⟩)],5⟩) _ ?_;intro i hi ih s hs;refine qD cd3 rfl rfl hs ?_;refine wa_ (wa_ (zB (wM (h:=wM (h:=w_ (le (h:=w_ (b_ (h:=nE (h:=zA ?_))))))))));refine c_ (h1:=?_) (h2:=?_)
 rotate_right 1
 focus
  intro c1;first|exact dn c1|(
   have d1:=c1;try simp at d1
   refine zW ?_)
 rotate_right 1
 focus
  intro c1;first|exact dn c1|(
   have d1:=c1;try simp at d1
   have hj:i<rds.length:=(by simp at c1;omega);have hw:=zU (i:=i) (by omega);obtain⟨rd,hx,e1,g1⟩:=kJ (l:=rds) (i:=i) hj;obtain⟨h1,h2,h3,h4⟩:=hall rd (List.mem_of_getElem? hx);refine zC ?_)
 all_goals first|refine zR ?_|(
  refine zA ?_;refine wa_ (zG (wa_ (zB (W3 (h:=nE (h:=zA (zG ?_)))))));refine qH (l_fs pl node sf ep W z L G rds i rd hp hk hL hlg hok hx hrl h1 h2 h3 hz hz2 h4 0 (by omega) _ (by simp[zH])) ?_
  first|refine zX ?_|refine zS ?_
  first|refine zI ?_|refine zX ?_
  all_goals first|refine zK ?_|(
   refine zA ?_;refine zB (wM (h:=w_ (b_ (h:=W3 (h:=nE (h:=?_))))))))
 all_goals first
 | (refine(ih (i+1) (by omega) ?_ _ ?_).trans ?_;(focus (first|omega|(simp;done)|(simp;omega)));(focus (simp[zH,hw];done));(focus (rfl)))
 | (apply zP (ex:=(Ext.exit 0)) 1 (some [2,3,4,5,6,7,8,9]);(focus (simp[zH];rfl));(focus (rfl)))
theorem rd_op {pl:List Nd} {a m:Int} (hm:m∈qJ a 0 pl):(xH pl m).op≠1:=by
 obtain⟨k,d,rfl,h1,h2⟩:=zDr hm;rw[Nat.zero_add];rw[xZ (d:=d) (by simpa using h1)];intro e;unfold kZ qB at h2;rw[if_pos e] at h2;simp at h2
theorem qJ2 (pl:List Nd) (node m sf:Int) (z:List Et) (ep:Int) (hp:pl.length<2000000) (hk:okN pl) (hz:jY z<2000000):oc.call 9 [.lst false 0 (nds false 0 pl),.int .i64 node,.int .i64 m,.int .i64 sf,.lst false 0 (ets false z),.int .i64 ep]=some (.agg [.int .i64 (zHz pl node m sf z ep).1,.lst true 6 (frs false (zHz pl node m sf z ep).2.1),.lst true 1 (ints (zHz pl node m sf z ep).2.2)],[]):=by
 have:=zDv rfl rfl (qKg pl node m sf z ep hp hk hz)
 simpa [V.half,V.halfL,V.shareL,V.share] using this
theorem qDh {pl:List Nd} (hk:okN pl) {node m sf:Int} {z:List Et} {ep:Int} (h0:(zHz pl node m sf z ep).1=0):∃W:Nat,m=W/\zAm pl node=0/\(zHz pl node m sf z ep).2.1.length<=48/\(zHz pl node m sf z ep).2.2.length=(zHz pl node m sf z ep).2.1.length/\(∀p∈(zHz pl node m sf z ep).2.1.zip (zHz pl node m sf z ep).2.2,qH9 pl W sf ep p.1 p.2)/\∀rd∈qJ node 0 pl,0<=rd/\rd<pl.length/\(xH pl rd).op≠1/\∀q:Nat,q<=1->vN (zE0 rd q (zHz pl node m sf z ep).2.1)=(0,if zBo pl rd q node=true then z else []):=by
 have h:zP4 pl node m sf z ep=0:=by
  unfold zHz at h0;split at h0
  ·assumption
  ·exact h0
 obtain⟨hc,hep,hwf⟩:=zA7 h;obtain⟨hnc,hm1,hm2,hs1,hs2⟩:=jJ hc;have hn:=jR hnc
 have e:zHz pl node m sf z ep=(0,qW pl node m.toNat sf ep z (qJ node 0 pl)):=by
  unfold zHz;rw[if_pos h]
 obtain⟨o1,o2⟩:=qFr hk h;refine⟨m.toNat,by omega,hnc,?_,?_,?_,fun rd hr=>?_⟩
 ·rw[e];exact(zUn hk hn.1 (by omega)).1
 ·rw[e];exact o1.symm
 ·rw[e];exact o2
 ·obtain⟨l1,l2,l3⟩:=zGq hk hn.1 hr (zC6 hwf)
  refine⟨l2,l3,rd_op hr,fun q hq=>?_⟩;rw[e];exact zSi hk h hr hq
theorem qBs (c:List Int) (h:c.length<400000000000000):oc.call 7 [.lst false 0 (bys c)]=some (.bool (decide (1048576<c.length)),[]):=by
 refine qA rfl cd7 rfl rfl rfl (by simp;rfl) (by simp;rfl) ?_;refine wa_ (zB (W3 (h:=nE (h:=zA (wa_ (zB (wM (h:=w_ (le (h:=w_ (b_ (h:=W3 (h:=nE (h:=?_))))))))))))));refine zA (zF ?_)
 all_goals (refine qX (hr:=(zL rfl zM)) (h:=?_);(focus (simp;omega)))
theorem law_fnSends (c:List Int) (h:okBy c):oc.call 3 [.lst false 0 (bys c)]=some (.bool true,[]):=by
 refine qA rfl cd3 rfl rfl rfl (by simp;rfl) (by simp;rfl) ?_;refine wa_ (zB (W3 (h:=nE (h:=zA (wa_ (wa_ (zB (wM (h:=w_ (ca (hc:=qBs c (by have:=h.1;omega)) (h:=nE (h:=zA ?_))))))))))));refine c_ (h1:=?_) (h2:=?_)
 rotate_right 1
 focus
  intro c1;first|exact dn c1|(
   have d1:=c1;try simp at d1
   have hok:okS c:=⟨by omega,h.2⟩;obtain⟨pl,node,m,sf,z,ep,hdr,hpl,z1,z2⟩:=zY4 c hok;have hk:=hpl.ok;have hp9:=hpl.1;have hwz:jY z<2000000:=(by have:=qBf (f:=zS1) (c:=8) (l:=z) z2;unfold jY;have:z.length * 8<=201 * 8:=Nat.mul_le_mul_right _ z1;omega);have hsI:=qJ2 pl node m sf z ep (by omega) hk hwz;have hsS:=qKe pl node m sf z ep (by omega) hk hwz;have hrl:(qJ node 0 pl).length<=9:=(by have:=zAe (a:=node) (l:=pl) (i:=0);omega);have hout:=fun h=>qDh hk (node:=node) (m:=m) (sf:=sf) (z:=z) (ep:=ep) h;obtain⟨C,L,G,hR⟩:∃C L G,zHz pl node m sf z ep=(C,L,G):=⟨_,_,_,rfl⟩;rw[hR] at hsI hsS hout;simp only at hsI hout;simp only[ouV] at hsS
   refine zC ?_)
 rotate_right 1
 focus
  intro c1;first|exact dn c1|(
   have d1:=c1;try simp at d1
   refine wa_ (zB (W3 (h:=nE (h:=zA (zF ?_))))))
 all_goals first|refine zK ?_|(
  refine zA ?_;refine wa_ (zB (wM (h:=w_ (ca (hc:=hdr) (h:=wM (h:=w_ (ex (h:=w_ (ex (h:=w_ (ex (h:=w_ (ex (h:=w_ (ex (h:=w_ (ex (h:=W3 (h:=?_)))))))))))))))))));refine W3 (h:=W3 (h:=W3 (h:=W3 (h:=W3 (h:=nE (h:=zA (wa_ (zB (wM (h:=wM (h:=wM (h:=?_))))))))))));refine wM (h:=wM (h:=wM (h:=w_ (ca (hc:=hsI) (h:=w_ (al (h:=w0 (s_ (h:=nE (h:=zA (wa_ (wa_ (zB (w_ (f_ (h:=?_))))))))))))))));refine w_ (l_ (h:=w_ (bE (h:=nE (h:=zA ?_)))));refine c_ (h1:=?_) (h2:=?_)
  rotate_right 1
  focus
   intro c2;first|exact dn c2|(
    have d2:=c2;try simp at d2
    obtain⟨W,rfl,hnc,hL,hlg,hfg,hall⟩:=hout d2;subst d2;have hrd:=qFu pl node (by omega) hk hnc;refine zC ?_)
  rotate_right 1
  focus
   intro c2;first|exact dn c2|(
    have d2:=c2;try simp at d2
    refine wa_ (qE (yM (h:=yM (h:=yM (h:=yM (h:=yM (h:=yM (h:=y_ (ca (hc:=hsS) (h:=ax_ (h:=y_ (fi (h:=ax_ (h:=y_ (f_ (h:=ax_ (h:=y_ (l_ (h:=ax_ (h:=?_))))))))))))))))))));refine y_ (bE (h:=ax_ (h:=y_ (a_ (h:=ax_ (h:=qO (ed (h:=zA (zF ?_))))))))))
  all_goals first|refine zK ?_|(
   refine zA ?_;refine wa_ (wa_ (zB (w_ (f_ (h:=w_ (l_ (h:=w_ (le (h:=w_ (f_ (h:=w_ (l_ (h:=w_ (le (h:=w_ (bE (h:=nE (h:=zA ?_))))))))))))))))));refine c_ (h1:=?_) (h2:=?_)
   rotate_right 1
   focus
    intro c3;first|exact dn c3|(
     have d3:=c3;try simp at d3
     refine zC ?_)
   rotate_right 1
   focus
    intro c3;first|exact dn c3|(
     have d3:=c3;try simp at d3
     exfalso;simp at c3;omega)
   all_goals first|refine zK ?_|(
    refine zA ?_;refine wa_ (zB (wM (h:=wM (h:=w_ (ca (hc:=hrd) (h:=w_ (fi (h:=W3 (h:=nE (h:=zA (wa_ (wa_ (zB ?_)))))))))))));refine W3 (h:=nE (h:=zA (zG ?_)));refine qH (l_fi pl node sf ep W z L G (qJ node 0 pl) (by omega) hk hL hlg hfg hrl z1 z2 hall 0 (by omega) _ (by simp[zH,hlg])) ?_
    first|refine zX ?_|refine zS ?_
    all_goals first|refine zK ?_|(
     refine zA ?_;refine wa_ (qE (y_ (f_ (h:=ax_ (h:=y_ (l_ (h:=ax_ (h:=y_ (le (h:=ax_ (h:=yM (h:=yM (h:=yM (h:=yM (h:=yM (h:=yM (h:=y_ (ca (hc:=hsS) (h:=ax_ (h:=?_))))))))))))))))))));refine y_ (fi (h:=ax_ (h:=y_ (le (h:=ax_ (h:=y_ (bE (h:=ax_ (h:=y_ (a_ (h:=ax_ (h:=qO (ed (h:=zA (zF ?_)))))))))))))))))))
 all_goals (refine qX (hr:=(zL rfl zM)) (h:=?_);(focus (simp)))
end Go.Proofs.YtbcgenkegnmkhaaGreat.Ev
