/- Part 5 of the proof that the law named in the last part returns true at every argument: an evaluator of the program, shown sound, and its runs. No further conditions. -/
import Derived.Test.YtbcgenkegnmkhaaGreatMLf604
namespace Go.Proofs.YtbcgenkegnmkhaaGreat.Ev
open Go
set_option maxRecDepth 100000
set_option linter.unusedSimpArgs false
set_option linter.unusedVariables false
set_option maxHeartbeats 2000000
def zS9 (p:List Fr→Bool) (i:Nat):List (List Fr)→Int
 | []=>-1
 | x::r=>if p x=true then i else zS9 p (i+1) r
theorem zOr {p:List Fr→Bool}:∀{l:List (List Fr)} {i:Nat},decide (0≤zS9 p i l)=l.any p
 | [],i=>by simp[zS9]
 | x::r,i=>by
  unfold zS9
  by_cases h:p x=true
  ·simp[h]
  ·simp only[if_neg h,List.any_cons,zOr (l:=r) (i:=i+1)];simp[h]
theorem zQk (l:List (List Fr))  (p:List Fr→Bool) (hl:l.length<2000000) (hc:∀x∈l,oc.call 72 [.lst false 0 (frs false x)]=some (.bool (p x),[])):∀i:Nat,i≤l.length→∀s,zI 2 (some [0,1,7,8]) s=⟨[(0,.lst false 0 (kO false l)),(1,.clo 72 []),(7,.int .i64 l.length),(8,.int .i64 i)],[],2⟩ →
 oc.loop 140 2 s=some (if 0≤zS9 p i (l.drop i) then(.ret,⟨[(4,.int .i64 (zS9 p i (l.drop i)))],[],2⟩) else(.exit 0,⟨[],[],2⟩)):=by
 refine zW (fun i=>l.length - i) _ (fun i=>⟨[(0,.lst false 0 (kO false l)),(1,.clo 72 []),(7,.int .i64 l.length),(8,.int .i64 i)],[],2⟩) _ ?_
 intro i hi ih s hs
 refine qB qK4 rfl rfl hs ?_
 refine wa_ (zB (w_ (b_ (h:=zC (e_ (h:=zA (wa_ (?_))))))))
 refine c_ (h1:=?_) (h2:=?_)
 rotate_right 1
 focus
  intro c1
  first
  | exact dn c1
  | (
   have d1:=c1;try simp at d1
   refine zX (?_)
   )
 rotate_right 1
 focus
  intro c1
  first
  | exact dn c1
  | (
   have d1:=c1;try simp at d1
   have hw:=zV (i:=i) (by omega);obtain⟨x,hx,e1,g1⟩:=zCd (t:=false) (l:=l) (i:=i) (by omega);have hq:=hc x (List.mem_of_getElem? hx)
   refine zD (?_)
   )
 all_goals first
 | refine zS ?_
 | (
  refine zA ?_
  refine wa_ (zG (wa_ (zB (w_ (m_ (h:=w_ (a_ (h:=zC (e_ (h:=zA (wa_ (zB (w_ (m_ (h:=w_ (m_ (h:=?_)))))))))))))))))
  refine w_ (m_ (h:=w_ (x_ (h:=w_ (l_ (h:=w_ (?_)))))))
  refine zFx rfl rfl (by rw[zCp];rfl) rfl (by rw[xW];rfl) (by simp[xW,mdT];rfl) (by first|rfl|simp[*]) hq rfl (by simp;rfl) (by simp[xW,mdT]) (by simp;rfl) (by simp;rfl) ?_
  refine zC (e_ (h:=zA (?_)))
  refine c_ (h1:=?_) (h2:=?_)
  rotate_right 1
  focus
   intro c2
   first
   | exact dn c2
   | (
    have d2:=c2;try simp at d2
    refine zD (?_)
    )
  rotate_right 1
  focus
   intro c2
   first
   | exact dn c2
   | (
    have d2:=c2;try simp at d2
    refine wa_ (zB (w_ (m_ (h:=w_ (a_ (h:=zC (e_ (h:=zA (zH (?_))))))))))
    )
  all_goals first|refine zJ ?_|refine zY ?_
  all_goals first
  | refine zL ?_
  | (
   refine zA ?_
   refine zB (w_ (b_ (h:=w_ (m_ (h:=zC (e_ (h:=?_)))))))
   )
  )
 all_goals first
 | (refine(ih (i+1) (by omega) ?_ _ ?_).trans ?_;(focus (first|omega|(simp;done)|(simp;omega)));(focus (simp[zI,hw];done));(focus (rw[e1];simp only[zS9,if_neg (show ¬p x=true by simp[d2])])))
 | (apply zM (ex:=Ext.ret) 2 (some [4]);(focus (simp[zI];rfl));(focus (rw[e1];simp[zS9,d2])))
 | (apply zM (ex:=(Ext.exit 0)) 2 (some [4]);(focus (simp[zI];rfl));(focus (rw[List.drop_eq_nil_of_le (by omega)];simp[zS9])))
theorem zQh (l:List (List Fr))  (p:List Fr→Bool) (hl:l.length<2000000) (hc:∀x∈l,oc.call 72 [.lst false 0 (frs false x)]=some (.bool (p x),[])):oc.call 140 [.lst false 0 (kO false l),.clo 72 []]=some (.int .i64 (if 0≤zS9 p 0 l then zS9 p 0 l else -1),[]):=by
 refine qD rfl qK4 rfl rfl rfl (by simp;rfl) (by simp;rfl) ?_
 refine wa_ (zB (w_ (a_ (h:=zC (e_ (h:=zA (wa_ (wa_ (zB (w_ (m_ (h:=w_ (le (h:=w_ (m_ (h:=zC (e_ (h:=?_))))))))))))))))))
 refine zA (zG (?_))
 refine qR (zQk l  p hl hc 0 (by omega) _ (by simp[zI])) ?_ ?_
 rotate_right 1
 focus
  intro c1
  skip
 rotate_right 1
 focus
  intro c1
  skip
 all_goals first|refine zY ?_|refine zT ?_
 all_goals first
 | refine zL ?_
 | (
  refine zA ?_
  refine wa_ (zB (w_ (a_ (h:=zC (e_ (h:=zA (zH (?_))))))))
  )
 all_goals (refine qZ (hr:=(zR rfl zO)) (h:=?_);(focus (clear hc;first|(simp_all;done)|(simp_all<;>omega))))
theorem zMp (l:List (List Fr))  (p:List Fr→Bool) (hl:l.length<2000000) (hc:∀x∈l,oc.call 72 [.lst false 0 (frs false x)]=some (.bool (p x),[])):oc.call 71 [.lst false 0 (kO false l),.clo 72 []]=some (.bool (l.any p),[]):=by
 refine qD rfl cd71 rfl rfl rfl (by simp;rfl) (by simp;rfl) ?_
 refine wa_ (zB (w_ (a_ (h:=zC (e_ (h:=zA (wa_ (zB (w_ (m_ (h:=w_ (m_ (h:=w_ (ca (hc:=zQh l  p hl hc) (h:=w_ (b_ (h:=w_ (a_ (h:=?_)))))))))))))))))))
 refine zC (e_ (h:=zA (zH (?_))))
 all_goals (refine qZ (hr:=(zR rfl zO)) (h:=?_);(focus (clear hc;rw[←zOr (i:=0)];simp;grind)))
@[simp] theorem Fr.ne_und (t:Bool) (x:Fr):(x.v t=V.und)=False:=by simp[Fr.v]
def zR7 (pl:List Nd):List Wk→Int
 | []=>0
 | w::r=>if wkC pl w=0 then zR7 pl r else wkC pl w
theorem zZh {pl:List Nd} {w:Wk} {r:List Wk} (h:wkC pl w=0):zR7 pl (w::r)=zR7 pl r:=by rw[zR7,if_pos h]
theorem qFy {pl:List Nd} {w:Wk} {r:List Wk} (h:¬wkC pl w=0):zR7 pl (w::r)=wkC pl w:=by rw[zR7,if_neg h]
def zV4 (pl:List Nd):List Fr→Int
 | []=>0
 | f::r=>if frC pl f=0 then zV4 pl r else frC pl f
theorem qHw {pl:List Nd} {f:Fr} {r:List Fr} (h:frC pl f=0):zV4 pl (f::r)=zV4 pl r:=by rw[zV4,if_pos h]
theorem qKh {pl:List Nd} {f:Fr} {r:List Fr} (h:¬frC pl f=0):zV4 pl (f::r)=frC pl f:=by rw[zV4,if_neg h]
def zPc (l:List (List Fr)):Bool:=l.any fun x=>decide (60<x.length)
def clC (c:Cl):Int :=
 if(1≤c.workers.length∧c.workers.length≤3)∧c.links.length=c.workers.length * c.workers.length∧zPc c.links=false then(if zR7 c.plan c.workers=0 then zV4 c.plan c.links.flatten else zR7 c.plan c.workers) else 2
def clN (c:Cl):Int:=if(jS c.plan).2=0 then clC c else(jS c.plan).2
theorem qH4 {n:Nat} (h:n≤3):n * n≤9:=Nat.le_trans (Nat.mul_le_mul h h) (by omega)
theorem zZd {n:Nat} (h:1≤n):1≤n * n:=Nat.le_trans (by omega) (Nat.mul_le_mul h h)
theorem zNa {l:List (List Fr)}:vJ l≤vC l:=by
 unfold vJ vC
 induction l with
 | nil=>simp
 | cons x r ih=>have:=xV (l:=x);simp only[vR,List.length_cons];omega
theorem qJ1 {l:List (List Fr)} {f:Fr} (h:f∈l.flatten):zZ2 f≤vC l:=by
 obtain⟨x,hx,hf⟩:=List.mem_flatten.1 h
 have h1:=zGz hx
 have h2:=zJw hf
 omega
theorem qGi (l:List Fr) (h:l.length<2000000):oc.call 72 [.lst false 0 (frs false l)]=some (.bool (decide (60<l.length)),[]):=by
 refine qD rfl cd72 rfl rfl rfl (by simp;rfl) (by simp;rfl) ?_
 refine wa_ (zB (w_ (a_ (h:=zC (e_ (h:=zA (wa_ (zB (w_ (m_ (h:=w_ (le (h:=w_ (b_ (h:=w_ (a_ (h:=zC (e_ (h:=?_)))))))))))))))))))
 refine zA (zH (?_))
 all_goals (refine qZ (hr:=(zR rfl zO)) (h:=?_);(focus (simp;omega)))
theorem l_cl1 (c:Cl) (hp:c.plan.length<2000000) (hk:okN c.plan) (h0:(jS c.plan).2=0) (hx:zA8 c.workers<2000000):∀i:Nat,(i≤c.workers.length)→∀s,zI 1 (some [1,3,42,43,44]) s=⟨[(1,.ptr 1 0 []),(3,.ref 2 0 (yS c.plan).length),(42,.lst false 0 (wks false c.workers)),(43,.int .i64 c.workers.length),(44,.int .i64 i)],[(1,⟨true,false,3,[c.v false],0⟩),(2,⟨false,false,1,ints (yS c.plan),0⟩)],3⟩ →
 oc.loop 21 8 s=some (if zR7 c.plan (c.workers.drop i)=0 then(.exit 0,⟨[(1,.ptr 1 0 []),(3,.ref 2 0 (yS c.plan).length)],[(1,⟨true,false,3,[c.v false],0⟩),(2,⟨false,false,1,ints (yS c.plan),0⟩)],3⟩) else(.ret,⟨[(1,.ptr 1 0 []),(2,.int .i64 (zR7 c.plan (c.workers.drop i))),(3,.ref 2 0 (yS c.plan).length)],[(1,⟨true,false,3,[c.v false],0⟩),(2,⟨false,false,1,ints (yS c.plan),0⟩)],3⟩)):=by
 refine zW (σ:=Nat) (fun i=>c.workers.length - i) _ (fun i=>⟨[(1,.ptr 1 0 []),(3,.ref 2 0 (yS c.plan).length),(42,.lst false 0 (wks false c.workers)),(43,.int .i64 c.workers.length),(44,.int .i64 i)],[(1,⟨true,false,3,[c.v false],0⟩),(2,⟨false,false,1,ints (yS c.plan),0⟩)],3⟩) _ ?_
 intro i hi ih s hs
 refine qB cd21 rfl rfl hs ?_
 have hlen:=zFc (l:=c.workers)
 refine wa_ (zB (w_ (b_ (h:=zC (e_ (h:=zA (wa_ (?_))))))))
 refine c_ (h1:=?_) (h2:=?_)
 rotate_right 1
 focus
  intro c1
  first
  | exact dn c1
  | (
   have d1:=c1;try simp at d1
   refine zX (?_)
   )
 rotate_right 1
 focus
  intro c1
  first
  | exact dn c1
  | (
   have d1:=c1;try simp at d1
   have hw:=zV (i:=i) (by omega);obtain⟨b,hb,e1,g1⟩:=zIp (t:=false) (l:=c.workers) (i:=i) (by omega);have hbw:=zEz (List.mem_of_getElem? hb)
   refine zD (?_)
   )
 all_goals first
 | refine zS ?_
 | (
  refine zA ?_
  refine wa_ (zG (wa_ (zB (w_ (x_ (h:=w_ (l_ (h:=w_ (al (h:=w0 (s_ (h:=zC (e_ (h:=zA (wa_ (zB (?_)))))))))))))))))
  refine w_ (f_ (h:=w_ (l_ (h:=w_ (m_ (h:=w_ (l_ (h:=w_ (ca (hc:=qFm c.plan b hp hk h0 (by omega)) (h:=w_ (a_ (h:=zC (e_ (h:=zA (wa_ (zB (w_ (m_ (h:=w_ (bE (h:=?_)))))))))))))))))))))
  refine zC (e_ (h:=zA (?_)))
  refine c_ (h1:=?_) (h2:=?_)
  rotate_right 1
  focus
   intro c2
   first
   | exact dn c2
   | (
    have d2:=c2;try simp at d2
    refine zD (?_)
    )
  rotate_right 1
  focus
   intro c2
   first
   | exact dn c2
   | (
    have d2:=c2;try simp at d2
    refine wa_ (zB (w_ (m_ (h:=w_ (a_ (h:=zC (e_ (h:=zA (zH (?_))))))))))
    )
  all_goals first|refine zJ ?_|refine zY ?_
  all_goals first
  | refine zL ?_
  | (
   refine zA ?_
   refine zB (w_ (b_ (h:=w_ (m_ (h:=zC (e_ (h:=?_)))))))
   )
  )
 all_goals first
 | (refine(ih (i+1) (by omega) ?_ _ ?_).trans ?_;(focus (first|omega|(simp;done)|(simp;omega)));(focus (simp[zI,hw];done));(focus (rw[e1,zZh d2])))
 | (apply zM (ex:=Ext.ret) 1 (some [1,2,3]);(focus (simp[zI];rfl));(focus (rw[e1,qFy d2];simp[d2])))
 | (apply zM (ex:=(Ext.exit 0)) 1 (some [1,2,3]);(focus (simp[zI];rfl));(focus (rw[List.drop_eq_nil_of_le (by omega)];simp[zR7])))
theorem l_cl2 (c:Cl) (L:List Fr) (hp:c.plan.length<2000000) (hk:okN c.plan) (h0:(jS c.plan).2=0) (hL:L.length<2000000) (hx:∀f∈L,zZ2 f<2000000):∀i:Nat,(i≤L.length)→∀s,zI 1 (some [1,3,59,60,61]) s=⟨[(1,.ptr 1 0 []),(3,.ref 2 0 (yS c.plan).length),(59,.ref 3 0 L.length),(60,.int .i64 L.length),(61,.int .i64 i)],[(1,⟨true,false,3,[c.v false],0⟩),(2,⟨false,false,1,ints (yS c.plan),0⟩),(3,⟨false,false,6,frs false L,0⟩)],4⟩ →
 oc.loop 21 15 s=some (if zV4 c.plan (L.drop i)=0 then(.exit 2,⟨[],[],1⟩) else(.ret,⟨[(2,.int .i64 (zV4 c.plan (L.drop i)))],[],1⟩)):=by
 refine zW (σ:=Nat) (fun i=>L.length - i) _ (fun i=>⟨[(1,.ptr 1 0 []),(3,.ref 2 0 (yS c.plan).length),(59,.ref 3 0 L.length),(60,.int .i64 L.length),(61,.int .i64 i)],[(1,⟨true,false,3,[c.v false],0⟩),(2,⟨false,false,1,ints (yS c.plan),0⟩),(3,⟨false,false,6,frs false L,0⟩)],4⟩) _ ?_
 intro i hi ih s hs
 refine qB cd21 rfl rfl hs ?_
 refine wa_ (zB (w_ (b_ (h:=zC (e_ (h:=zA (wa_ (?_))))))))
 refine c_ (h1:=?_) (h2:=?_)
 rotate_right 1
 focus
  intro c1
  first
  | exact dn c1
  | (
   have d1:=c1;try simp at d1
   refine zX (?_)
   )
 rotate_right 1
 focus
  intro c1
  first
  | exact dn c1
  | (
   have d1:=c1;try simp at d1
   have hw:=zV (i:=i) (by omega);obtain⟨b,hb,e1,g1⟩:=zI7 (t:=false) (l:=L) (i:=i) (by omega);have hbw:=hx b (List.mem_of_getElem? hb)
   refine zD (?_)
   )
 all_goals first
 | refine zS ?_
 | (
  refine zA ?_
  refine wa_ (zG (wa_ (zB (w_ (x_ (h:=w_ (l_ (h:=w_ (al (h:=w0 (s_ (h:=zC (e_ (h:=zA (wa_ (zB (?_)))))))))))))))))
  refine w_ (f_ (h:=w_ (l_ (h:=w_ (m_ (h:=w_ (l_ (h:=w_ (ca (hc:=zZe c.plan b hp hk h0 hbw) (h:=w_ (a_ (h:=zC (e_ (h:=zA (wa_ (zB (w_ (m_ (h:=w_ (bE (h:=?_)))))))))))))))))))))
  refine zC (e_ (h:=zA (?_)))
  refine c_ (h1:=?_) (h2:=?_)
  rotate_right 1
  focus
   intro c2
   first
   | exact dn c2
   | (
    have d2:=c2;try simp at d2
    refine zD (?_)
    )
  rotate_right 1
  focus
   intro c2
   first
   | exact dn c2
   | (
    have d2:=c2;try simp at d2
    refine wa_ (zB (w_ (m_ (h:=w_ (a_ (h:=zC (e_ (h:=zA (zH (?_))))))))))
    )
  all_goals first|refine zJ ?_|refine zY ?_
  all_goals first
  | refine zL ?_
  | (
   refine zA ?_
   refine zB (w_ (b_ (h:=w_ (m_ (h:=zC (e_ (h:=?_)))))))
   )
  )
 all_goals first
 | (refine(ih (i+1) (by omega) ?_ _ ?_).trans ?_;(focus (first|omega|(simp;done)|(simp;omega)));(focus (simp[zI,hw];done));(focus (rw[e1,qHw d2])))
 | (apply zM (ex:=Ext.ret) 1 (some [2]);(focus (simp[zI];rfl));(focus (rw[e1,qKh d2];simp[d2])))
 | (apply zM (ex:=(Ext.exit 2)) 1 (some [2]);(focus (simp[zI];rfl));(focus (rw[List.drop_eq_nil_of_le (by omega)];simp[zV4])))
theorem zX6 (c:Cl) (hp:c.plan.length<2000000) (hk:okN c.plan) (hx:zA8 c.workers<2000000) (hy:vC c.links<2000000):oc.call 21 [c.v false]=some (.int .i64 (clN c),[]):=by
 refine qD rfl cd21 rfl rfl rfl (by simp;rfl) (by simp;rfl) ?_
 have hl1:=zFc (l:=c.workers)
 have hl2:=zB2 (l:=c.links)
 have hl3:=zNa (l:=c.links)
 have hl4:=lenS_flat (l:=c.links)
 have hl5:∀f∈c.links.flatten,zZ2 f<2000000:=fun f hf=>by have:=qJ1 hf;omega
 have hsq:c.workers.length≤3→IntKind.i64.wrap ((c.workers.length:Int) * c.workers.length)=((c.workers.length * c.workers.length:Nat):Int):=fun h=>by have:=qH4 h;rw[qH (by push_cast at *;omega) (by push_cast at *;omega)];push_cast;rfl
 refine wa_ (zB (w_ (bx (h:=w_ (a_ (h:=zC (e_ (h:=zA (wa_ (zB (w_ (f_ (h:=w_ (l_ (h:=w_ (ca (hc:=zOm c.plan hp hk) (h:=w_ (m_ (h:=?_)))))))))))))))))))
 refine w_ (ex (h:=w_ (ex (h:=w_ (a_ (h:=w_ (a_ (h:=zC (e_ (h:=zA (wa_ (wa_ (zB (w_ (m_ (h:=w_ (bE (h:=zC (e_ (h:=?_))))))))))))))))))))
 refine zA (?_)
 refine c_ (h1:=?_) (h2:=?_)
 rotate_right 1
 focus
  intro c1
  first
  | exact dn c1
  | (
   have d1:=c1;try simp at d1
   refine zD (?_)
   )
 rotate_right 1
 focus
  intro c1
  first
  | exact dn c1
  | (
   have d1:=c1;try simp at d1
   refine wa_ (zB (w_ (m_ (h:=w_ (a_ (h:=zC (e_ (h:=zA (zH (?_))))))))))
   )
 all_goals first
 | refine zL ?_
 | (
  refine zA ?_
  refine wa_ (zB (w_ (f_ (h:=w_ (l_ (h:=w_ (le (h:=w_ (a_ (h:=zC (e_ (h:=zA (wa_ (wa_ (zB (w_ (m_ (h:=?_))))))))))))))))))
  refine w_ (ca (hc:=zDz _ _ _) (h:=w_ (u_ (h:=w_ (m_ (h:=?_))))))
  refine gw_ (h1:=?_) (h2:=?_)
  rotate_right 1
  focus
   intro c2
   first
   | exact dn c2
   | (
    have d2:=c2;try simp at d2
    refine go_ (h:=go_ (h:=go_ (h:=go_ (h:=go_ (h:=go_ (h:=go_ (h:=?_)))))))
    )
  rotate_right 1
  focus
   intro c2
   first
   | exact dn c2
   | (
    have d2:=c2;try simp at d2
    refine g_ (h:=w_ (f_ (h:=g_ (h:=w_ (l_ (h:=g_ (h:=w_ (le (h:=g_ (h:=w_ (m_ (h:=g_ (h:=w_ (m_ (h:=g_ (h:=w_ (b_ (h:=g_ (h:=w_ (bE (h:=?_)))))))))))))))))))))
    )
  all_goals
   refine w_ (pk (h:=w_ (m_ (h:=?_))))
   refine gw_ (h1:=?_) (h2:=?_)
   rotate_right 1
   focus
    intro c3
    first
    | exact dn c3
    | (
     have d3:=c3;try simp at d3
     refine go_ (h:=go_ (h:=go_ (h:=?_)))
     )
   rotate_right 1
   focus
    intro c3
    first
    | exact dn c3
    | (
     have d3:=c3;try simp at d3
     refine g_ (h:=w_ (f_ (h:=g_ (h:=w_ (l_ (h:=g_ (h:=w_ (ca (hc:=zMp c.links (fun x=>decide (60<x.length)) (by omega) (fun x hx=>qGi x (by have:=zGz hx;have:=xV (l:=x);omega))) (h:=?_)))))))))
     )
   all_goals
    refine w_ (pk (h:=zC (e_ (h:=?_))))
  all_goals first
  | (
   refine zA ?_
   refine c_ (h1:=?_) (h2:=?_)
   rotate_right 1
   focus
    intro c4
    first
    | exact dn c4
    | (
     have d4:=c4;try simp at d4
     have hm3:1≤c.workers.length∧c.workers.length≤3:=(by simp[inI] at d2;omega);have hsq2:=hsq hm3.2;have hnn:=zZd hm3.1;have hll:c.links.length=c.workers.length * c.workers.length:=(by rw[hsq2] at d3;exact_mod_cast d3);have hne:0<c.links.length:=(by omega);have hmf:zPc c.links=false:=(by simp only[zPc];simpa using d4)
     refine zD (?_)
     )
   rotate_right 1
   focus
    intro c4
    first
    | exact dn c4
    | (
     have d4:=c4;try simp at d4
     have hbad:¬((1≤c.workers.length∧c.workers.length≤3)∧c.links.length=c.workers.length * c.workers.length∧zPc c.links=false):=(by rintro⟨ha,hb,hc⟩;have hsq2:=hsq ha.2;first|(simp[inI] at d2;omega)|(rw[hsq2,hb] at d3;simp at d3;done)|(simp[zPc] at hc d4;obtain⟨x,hx1,hx2⟩:=d4;have:=hc x hx1;omega))
     refine wa_ (zB (w_ (a_ (h:=zC (e_ (h:=zA (zH (?_))))))))
     )
   )
  all_goals first
  | refine zL ?_
  | (
   refine zA ?_
   refine wa_ (wa_ (zB (w_ (f_ (h:=w_ (l_ (h:=w_ (le (h:=w_ (m_ (h:=zC (e_ (h:=zA (zG (?_)))))))))))))))
   refine qR (l_cl1 c hp hk d1 hx 0 (by omega) _ (by simp[zI,yS])) ?_ ?_
   rotate_right 1
   focus
    intro c5
    first
    | exact dn c5
    | (
     have d5:=c5;try simp at d5
     skip
     )
   rotate_right 1
   focus
    intro c5
    first
    | exact dn c5
    | (
     have d5:=c5;try simp at d5
     skip
     )
   all_goals first|refine zY ?_|refine zT ?_
   all_goals first
   | refine zL ?_
   | (
    refine zA ?_
    refine wa_ (wa_ (zB (w_ (f_ (h:=w_ (l_ (h:=w_ (ca (hc:=qCr c.links (by omega) (by omega) hne) (h:=w_ (le (h:=w_ (m_ (h:=zC (e_ (h:=zA (zG (?_)))))))))))))))))
    refine qR (l_cl2 c c.links.flatten hp hk d1 (by omega) hl5 0 (by omega) _ (by simp[zI,yS])) ?_ ?_
    rotate_right 1
    focus
     intro c6
     first
     | exact dn c6
     | (
      have d6:=c6;try simp at d6
      skip
      )
    rotate_right 1
    focus
     intro c6
     first
     | exact dn c6
     | (
      have d6:=c6;try simp at d6
      skip
      )
    all_goals first|refine zY ?_|refine zT ?_
    all_goals first
    | refine zL ?_
    | (
     refine zA ?_
     refine wa_ (zB (w_ (a_ (h:=zC (e_ (h:=zA (zH (?_))))))))
     )
    )
   )
  )
 all_goals (refine qZ (hr:=(zR rfl zO)) (h:=?_);(focus (clear hk hx hy hl5;first|(simp[clN,clC,hbad, *];done)|(simp only[clN,clC,if_pos (And.intro hm3 (And.intro hll hmf))];simp at *;simp[*];done)|(simp[clN, *];done))))
def inS (l:List Wk):Nat:=wS (fun w=>w.inbox.length) l
theorem qBq {l:List Wk} {i:Nat} {x:Wk} (h:l[i]? = some x):inS (l.take (i+1))=inS (l.take i)+x.inbox.length:=zV1 (f:=fun w:Wk=>w.inbox.length) h
theorem zWm {l:List Wk} {i:Nat}:inS (l.take i)≤inS l:=zO9
theorem inS_w {l:List Wk}:inS l≤zA8 l:=by
 unfold inS zA8
 induction l with
 | nil=>simp
 | cons x r ih=>have:=xV (l:=x.inbox);have h2:x.inbox.length≤zQx x:=(by unfold zQx;omega);simp only[vR,List.length_cons];omega
theorem zXk {c:Cl} (h:clN c=0):0<c.links.length:=by
 unfold clN at h
 split at h
 ·unfold clC at h
  split at h
  ·rename_i h1
   have:=zZd h1.1.1
   have:=h1.2.1
   omega
  ·cases h
 ·exact absurd h ‹_›
theorem zRw (l:List Fr) (h:l.length<2000000):oc.call 145 [.lst false 0 (frs false l)]=some (.int .i64 l.length,[]):=by
 refine qD rfl cd145 rfl rfl rfl (by simp;rfl) (by simp;rfl) ?_
 refine wa_ (zB (w_ (a_ (h:=zC (e_ (h:=zA (wa_ (zB (w_ (m_ (h:=w_ (le (h:=w_ (a_ (h:=zC (e_ (h:=zA (?_))))))))))))))))))
 refine zH (?_)
 all_goals (refine qZ (hr:=(zR rfl zO)) (h:=?_);(focus (first|(simp_all;done)|(simp_all<;>omega)|(simp_all<;>split<;>simp_all<;>omega))))
theorem e_onL (c:Cl) (h1:c.links.length<2000000) (h2:vJ c.links<2000000) (hne:0<c.links.length):oc.call 144 [.vptr (c.v false)]=some (.int .i64 (vJ c.links:Nat),[]):=by
 refine qD rfl cd144 rfl rfl rfl (by simp;rfl) (by simp;rfl) ?_
 obtain⟨L,hL⟩:∃L,c.links.flatten=L:=⟨_,rfl⟩
 have hc:=qCr c.links h1 h2 hne
 rw[hL] at hc
 have hLl:L.length=vJ c.links:=by rw[←hL];exact lenS_flat
 refine wa_ (zB (w_ (a_ (h:=zC (e_ (h:=zA (wa_ (zB (w_ (m_ (h:=w_ (nc (h:=w_ (f_ (h:=w_ (l_ (h:=w_ (ca (hc:=hc) (h:=?_)))))))))))))))))))
 refine w_ (ca (hc:=zRw L (by omega)) (h:=w_ (a_ (h:=zC (e_ (h:=zA (zH (?_))))))))
 all_goals (refine qZ (hr:=(zR rfl zO)) (h:=?_);(focus (simp[hLl])))
theorem l_inf (c:Cl) (n:Nat) (hx:zA8 c.workers<2000000) (hn:n<2000000):∀i:Nat,(i≤c.workers.length)→∀s,zI 1 (some [3,11,12,13]) s=⟨[(3,.int .i64 ((n+inS (c.workers.take i):Nat):Int)),(11,.lst false 0 (wks false c.workers)),(12,.int .i64 c.workers.length),(13,.int .i64 i)],[],1⟩ →
 oc.loop 77 3 s=some (.exit 0,⟨[(3,.int .i64 ((n+inS c.workers:Nat):Int))],[],1⟩):=by
 refine zW (σ:=Nat) (fun i=>c.workers.length - i) _ (fun i=>⟨[(3,.int .i64 ((n+inS (c.workers.take i):Nat):Int)),(11,.lst false 0 (wks false c.workers)),(12,.int .i64 c.workers.length),(13,.int .i64 i)],[],1⟩) _ ?_
 intro i hi ih s hs
 refine qB cd77 rfl rfl hs ?_
 have hlen:=zFc (l:=c.workers)
 refine wa_ (zB (w_ (b_ (h:=zC (e_ (h:=zA (wa_ (?_))))))))
 refine c_ (h1:=?_) (h2:=?_)
 rotate_right 1
 focus
  intro c1
  first
  | exact dn c1
  | (
   have d1:=c1;try simp at d1
   refine zX (?_)
   )
 rotate_right 1
 focus
  intro c1
  first
  | exact dn c1
  | (
   have d1:=c1;try simp at d1
   have hw:=zV (i:=i) (by omega);obtain⟨b,hb,e1,g1⟩:=zIp (t:=false) (l:=c.workers) (i:=i) (by omega);have hbw:=zEz (List.mem_of_getElem? hb);have hcut:=qBq hb;have hle:=zWm (l:=c.workers) (i:=i+1);have hin:=inS_w (l:=c.workers);have hbi:=xV (l:=b.inbox);have hb2:b.inbox.length<2000000:=(by unfold zQx at hbw;omega);have hws:IntKind.i64.wrap (((n+inS (c.workers.take i):Nat):Int)+(b.inbox.length:Int))=((n+inS (c.workers.take (i+1)):Nat):Int):=(qH (by omega) (by omega)).trans (by omega)
   refine zD (?_)
   )
 all_goals first
 | refine zS ?_
 | (
  refine zA ?_
  refine wa_ (zG (wa_ (zB (w_ (x_ (h:=w_ (l_ (h:=w_ (al (h:=w0 (s_ (h:=zC (e_ (h:=zA (zB (w_ (m_ (h:=?_))))))))))))))))))
  refine w_ (f_ (h:=w_ (l_ (h:=w_ (ca (hc:=zRw b.inbox hb2) (h:=w_ (b_ (h:=w_ (a_ (h:=zC (e_ (h:=zJ (zA (zB (w_ (b_ (h:=w_ (m_ (h:=zC (e_ (h:=?_)))))))))))))))))))))
  )
 all_goals first
 | ((refine(ih (i+1) (by omega) ?_ _ ?_).trans ?_;(focus (first|omega|(simp;done)));(focus (simp only[hws];simp[zI,hw];done));(focus rfl)))
 | (apply zM (ex:=(Ext.exit 0)) 1 (some [3]);(focus (simp[zI];rfl));(focus (rw[List.take_of_length_le (by omega)];simp)))
theorem qD8 (c:Cl) (h1:c.links.length<2000000) (h2:vJ c.links<2000000) (hne:0<c.links.length) (hx:zA8 c.workers<2000000):oc.call 77 [.vptr (c.v false)]=some (.int .i64 ((vJ c.links+inS c.workers:Nat):Int),[]):=by
 refine qD rfl cd77 rfl rfl rfl (by simp;rfl) (by simp;rfl) ?_
 refine wa_ (zB (w_ (a_ (h:=zC (e_ (h:=zA (wa_ (zB (w_ (m_ (h:=w_ (ca (hc:=e_onL c h1 h2 hne) (h:=w_ (a_ (h:=zC (e_ (h:=zA (?_))))))))))))))))))
 refine wa_ (wa_ (zB (w_ (m_ (h:=w_ (nc (h:=w_ (f_ (h:=w_ (l_ (h:=w_ (le (h:=w_ (m_ (h:=zC (e_ (h:=zA (zG (?_)))))))))))))))))))
 refine qF (l_inf c (vJ c.links) hx h2 0 (by omega) _ (by simp[zI,inS])) ?_
 refine zT (zA (wa_ (zB (w_ (m_ (h:=w_ (a_ (h:=zC (e_ (h:=zA (zH (?_))))))))))))
 all_goals (refine qZ (hr:=(zR rfl zO)) (h:=?_);(focus (first|(simp_all;done)|(simp_all<;>omega)|(simp_all<;>split<;>simp_all<;>omega))))
def zS2 (c:Cl):Int×Int:=if clN c=0 then(0,((vJ c.links+inS c.workers:Nat):Int)) else(clN c,0)
theorem qD6 (c:Cl) (hp:c.plan.length<2000000) (hk:okN c.plan) (hx:zA8 c.workers<2000000) (hy:vC c.links<2000000):oc.call 23 [c.v false]=some (.agg [.int .i64 (zS2 c).1,.int .i64 (zS2 c).2],[]):=by
 refine qD rfl cd23 rfl rfl rfl (by simp;rfl) (by simp;rfl) ?_
 have hl2:=zB2 (l:=c.links)
 have hl3:=zNa (l:=c.links)
 refine wa_ (zB (w_ (bx (h:=w_ (al (h:=zC (e_ (h:=zA (wa_ (wa_ (zB (w_ (l_ (h:=w_ (ca (hc:=zX6 c hp hk hx hy) (h:=w_ (a_ (h:=?_))))))))))))))))))
 refine zC (e_ (h:=zA (wa_ (zB (w_ (m_ (h:=w_ (bE (h:=zC (e_ (h:=zA (?_))))))))))))
 refine c_ (h1:=?_) (h2:=?_)
 rotate_right 1
 focus
  intro c1
  first
  | exact dn c1
  | (
   have d1:=c1;try simp at d1
   refine zD (?_)
   )
 rotate_right 1
 focus
  intro c1
  first
  | exact dn c1
  | (
   have d1:=c1;try simp at d1
   refine wa_ (zB (w_ (m_ (h:=w_ (bd (h:=w0 (s_ (h:=zC (e_ (h:=zA (zH (?_))))))))))))
   )
 all_goals first
 | refine zL ?_
 | (
  refine zA ?_
  refine wa_ (zB (w_ (ca (hc:=qD8 c (by omega) (by omega) (zXk d1) hx) (h:=w_ (bd (h:=w0 (s_ (h:=zC (e_ (h:=zA (zH (?_))))))))))))
  )
 all_goals (refine qZ (hr:=(vA (tys_ok.zero _ _ rfl) rfl (by simp;rfl) (by rfl) zO)) (h:=?_);(focus (clear hk;simp[zS2, *])))
end Go.Proofs.YtbcgenkegnmkhaaGreat.Ev
namespace Go.Proofs.YtbcgenkegnmkhaaGreat.Ev
set_option linter.unusedSectionVars false
section
variable {α : Type} [Inhabited α]
def nth (l:List α) (i:Nat):α:=l[i]?.getD default
theorem zDo {l:List α} {i:Nat} (h:i<l.length):l[i]? = some (nth l i):=by
 unfold nth;rw[List.getElem?_eq_getElem h];rfl
theorem zTg {l:List α} {i k:Nat} {x:α} (h:i<l.length):nth (l.set i x) k=if k=i then x else nth l k:=by
 unfold nth
 by_cases e:k=i
 ·subst e;rw[if_pos rfl,List.getElem?_set_self h];rfl
 ·rw[if_neg e,List.getElem?_set_ne (Ne.symm e)]
def swp (l:List α) (i j:Nat):List α:=(l.set i (nth l j)).set j (nth l i)
@[simp] theorem swp_len {l:List α} {i j:Nat}:(swp l i j).length=l.length:=by simp[swp]
theorem zDp {l:List α} {i j k:Nat} (hi:i<l.length) (hj:j<l.length):nth (swp l i j) k=if k=j then nth l i else if k=i then nth l j else nth l k:=by
 unfold swp
 rw[zTg (by simpa using hj),zTg hi]
theorem zOz {l:List α} {i j:Nat} (hi:i<l.length) (hj:j<l.length):(swp l i j).Perm l:=by
 have h:((l.set i l[j]).set j l[i]).Perm l:=List.set_set_perm hi hj
 have e1:nth l j=l[j]:=by unfold nth;rw[List.getElem?_eq_getElem hj];rfl
 have e2:nth l i=l[i]:=by unfold nth;rw[List.getElem?_eq_getElem hi];rfl
 unfold swp;rw[e1,e2];exact h
structure Wit (a b:Nat) (l r:List α):Prop where
 perm:r.Perm l
 out:∀k,k<a∨b≤k→nth r k=nth l k
 mem:∀k,a≤k→k<b→∃i,a≤i∧i<b∧nth r k=nth l i
theorem Wit.len {a b:Nat} {l r:List α} (h:Wit a b l r):r.length=l.length:=h.perm.length_eq
theorem Wit.refl (a b:Nat) (l:List α):Wit a b l l:=⟨.refl _,fun _ _=>rfl,fun k h1 h2=>⟨k,h1,h2,rfl⟩⟩
theorem Wit.trans {a b:Nat} {l m r:List α} (h1:Wit a b l m) (h2:Wit a b m r):Wit a b l r :=
 ⟨h2.perm.trans h1.perm,fun k hk=>(h2.out k hk).trans (h1.out k hk),fun k ha hb=>by
  obtain⟨i,hi1,hi2,e⟩:=h2.mem k ha hb
  obtain⟨j,hj1,hj2,e2⟩:=h1.mem i hi1 hi2
  exact⟨j,hj1,hj2,e.trans e2⟩⟩
theorem Wit.wide {a b a' b':Nat} {l r:List α} (h:Wit a b l r) (ha:a'≤a) (hb:b≤b'):Wit a' b' l r :=
 ⟨h.perm,fun k hk=>h.out k (by omega),fun k h1 h2=>by
  by_cases hk:a≤k∧k<b
  ·obtain⟨i,i1,i2,e⟩:=h.mem k hk.1 hk.2
   exact⟨i,by omega,by omega,e⟩
  ·exact⟨k,h1,h2,h.out k (by omega)⟩⟩
theorem zMy {l:List α} {a b i j:Nat} (hb:b≤l.length) (hi:a≤i) (hi2:i<b) (hj:a≤j) (hj2:j<b):Wit a b l (swp l i j):=by
 refine⟨zOz (by omega) (by omega),fun k hk=>?_,fun k h1 h2=>?_⟩
 ·rw[zDp (by omega) (by omega),if_neg (by omega),if_neg (by omega)]
 ·rw[zDp (by omega) (by omega)]
  split
  ·exact⟨i,hi,hi2,rfl⟩
  ·split
   ·exact⟨j,hj,hj2,rfl⟩
   ·exact⟨k,h1,h2,rfl⟩
structure Ordr (lt:α→α→Bool):Prop where
 asym:∀{x y},lt x y=true→lt y x=false
 ntr:∀{x y z},lt y x=false→lt z y=false→lt z x=false
def Srt (lt:α→α→Bool) (a b:Nat) (l:List α):Prop:=∀i j,a≤i→i≤j→j<b→lt (nth l j) (nth l i)=false
variable {lt : α→α→Bool}
theorem Ordr.rfl' (O:Ordr lt) (x:α):lt x x=false:=by
 cases h:lt x x
 ·rfl
 ·have:=O.asym h;rw[h] at this;cases this
theorem Srt.sub {a b a' b':Nat} {l:List α} (h:Srt lt a b l) (ha:a≤a') (hb:b'≤b):Srt lt a' b' l:=fun i j h1 h2 h3=>h i j (by omega) h2 (by omega)
theorem Srt.one (O:Ordr lt) {a b:Nat} {l:List α} (h:b≤a+1):Srt lt a b l:=fun i j h1 h2 h3=>by
 obtain rfl:i=j:=by omega
 exact O.rfl' _
theorem Srt.out {a b c d:Nat} {l r:List α} (h:Srt lt c d l) (w:Wit a b l r) (hd:d≤a∨b≤c):Srt lt c d r:=fun i j h1 h2 h3=>by
 rw[w.out i (by omega),w.out j (by omega)]
 exact h i j h1 h2 h3
def bub (lt:α→α→Bool) (a:Nat):Nat→List α→List α
 | 0,l=>l
 | j+1,l=>if a<j+1∧lt (nth l (j+1)) (nth l j)=true then bub lt a j (swp l (j+1) j) else l
theorem zN2 {a b:Nat}:∀{j:Nat} {l:List α},b≤l.length→a≤j→j<b→Wit a b l (bub lt a j l)
 | 0,l,_,_,_=>Wit.refl ..
 | j+1,l,hb,ha,hj=>by
  unfold bub
  split
  ·rename_i h
   have w:=zMy (l:=l) (a:=a) (b:=b) (i:=j+1) (j:=j) hb ha hj (by omega) (by omega)
   exact w.trans (zN2 (by simpa using hb) (by omega) (by omega))
  ·exact Wit.refl ..
theorem zUm (O:Ordr lt) {a b:Nat}:∀{j:Nat} {l:List α},b≤l.length→a≤j→j<b→(∀i k,a≤i→i≤k→k<b→i≠j→k≠j→lt (nth l k) (nth l i)=false)→(∀k,j≤k→k<b→lt (nth l k) (nth l j)=false)→Srt lt a b (bub lt a j l)
 | 0,l,hb,ha,hj,h1,h2=>by
  obtain rfl:a=0:=by omega
  show Srt lt 0 b l
  intro i k hi hik hk
  by_cases e:i=0
  ·subst e;exact h2 k (by omega) hk
  ·exact h1 i k hi hik hk e (by omega)
 | j+1,l,hb,ha,hj,h1,h2=>by
  unfold bub
  split
  ·rename_i h
   have hw:∀k,nth (swp l (j+1) j) k=_:=fun k=>zDp (l:=l) (i:=j+1) (j:=j) (by omega) (by omega)
   refine zUm O (by simpa using hb) (by omega) (by omega) (fun i k hi hik hk e1 e2=>?_) (fun k hjk hk=>?_)
   ·rw[hw,hw,if_neg e1,if_neg e2]
    by_cases ek:k=j+1
    ·subst ek
     rw[if_pos rfl]
     by_cases ei:i=j+1
     ·subst ei;rw[if_pos rfl];exact O.rfl' _
     ·rw[if_neg ei];exact h1 i j hi (by omega) (by omega) ei (by omega)
    ·rw[if_neg ek]
     by_cases ei:i=j+1
     ·subst ei;rw[if_pos rfl];exact h1 j k (by omega) (by omega) hk (by omega) ek
     ·rw[if_neg ei];exact h1 i k hi hik hk ei ek
   ·rw[hw,hw,if_pos rfl]
    by_cases ek:k=j
    ·subst ek;rw[if_pos rfl];exact O.rfl' _
    ·rw[if_neg ek]
     by_cases ek2:k=j+1
     ·subst ek2;rw[if_pos rfl];exact O.asym h.2
     ·rw[if_neg ek2];exact h2 k (by omega) hk
  ·rename_i h
   intro i k hi hik hk
   have hj1:∀i,a≤i→i≤j→lt (nth l (j+1)) (nth l i)=false:=fun i hi hij=>by
    have hn:lt (nth l (j+1)) (nth l j)=false:=by
     cases hc:lt (nth l (j+1)) (nth l j)
     ·rfl
     ·exact absurd ⟨by omega,hc⟩ h
    by_cases e:i=j
    ·subst e;exact hn
    ·exact O.ntr (h1 i j hi (by omega) (by omega) (by omega) (by omega)) hn
   by_cases ek:k=j+1
   ·subst ek
    by_cases ei:i=j+1
    ·subst ei;exact O.rfl' _
    ·exact hj1 i hi (by omega)
   ·by_cases ei:i=j+1
    ·subst ei;exact h2 k (by omega) hk
    ·exact h1 i k hi hik hk ei ek
def qDv (lt:α→α→Bool) (a:Nat):Nat→Nat→List α→List α
 | 0,_,l=>l
 | n+1,i,l=>qDv lt a n (i+1) (bub lt a i l)
theorem zTw (O:Ordr lt) {a b:Nat}:∀{n i:Nat} {l:List α},i+n=b→a<i→b≤l.length→Srt lt a i l→Wit a b l (qDv lt a n i l)∧Srt lt a b (qDv lt a n i l)
 | 0,i,l,hn,ha,hb,hs=>by
  obtain rfl:i=b:=by omega
  exact⟨Wit.refl ..,hs⟩
 | n+1,i,l,hn,ha,hb,hs=>by
  unfold qDv
  have w:=zN2 (lt:=lt) (a:=a) (b:=i+1) (j:=i) (l:=l) (by omega) (by omega) (by omega)
  have hs2:=zUm O (a:=a) (b:=i+1) (j:=i) (l:=l) (by omega) (by omega) (by omega) (fun p q h1 h2 h3 e1 e2=>hs p q h1 h2 (by omega)) (fun k h1 h2=>by
   obtain rfl:k=i:=by omega
   exact O.rfl' _)
  have hr:=zTw O (a:=a) (b:=b) (n:=n) (i:=i+1) (l:=bub lt a i l) (by omega) (by omega) (by rw[w.len];exact hb) hs2
  exact⟨(w.wide (by omega) (by omega)).trans hr.1,hr.2⟩
def ins (lt:α→α→Bool) (a b:Nat) (l:List α):List α:=qDv lt a (b - (a+1)) (a+1) l
theorem zLg (O:Ordr lt) {a b:Nat} {l:List α} (hb:b≤l.length):Wit a b l (ins lt a b l)∧Srt lt a b (ins lt a b l):=by
 by_cases h:a+1≤b
 ·exact zTw O (by omega) (by omega) hb (Srt.one O (by omega))
 ·unfold ins
  rw[show b - (a+1)=0 by omega]
  exact⟨Wit.refl ..,Srt.one O (by omega)⟩
def hlf (p:Nat→Bool) (i j:Nat):Nat :=
 if h:i<j then if p ((i+j) / 2)=true then hlf p ((i+j) / 2+1) j else hlf p i ((i+j) / 2) else i
termination_by j - i
decreasing_by all_goals omega
theorem zD4 {p:Nat→Bool}:∀(i j:Nat),i≤j→i≤hlf p i j∧hlf p i j≤j∧((∀x y,i≤x→x≤y→y<j→p y=true→p x=true)→(∀x,i≤x→x<hlf p i j→p x=true)∧∀x,hlf p i j≤x→x<j→p x=false):=by
 intro i j hij
 induction hd:j - i using Nat.strongRecOn generalizing i j with
 | _ d ih =>
  subst hd
  unfold hlf
  split
  ·rename_i h
   split
   ·rename_i hp
    obtain⟨h1,h2,h3⟩:=ih (j - ((i+j) / 2+1)) (by omega) ((i+j) / 2+1) j (by omega) rfl
    refine⟨by omega,h2,fun hm=>?_⟩
    obtain⟨h4,h5⟩:=h3 (fun x y a b c d=>hm x y (by omega) b c d)
    refine⟨fun x a b=>?_,h5⟩
    by_cases e:(i+j) / 2+1≤x
    ·exact h4 x e b
    ·exact hm x ((i+j) / 2) a (by omega) (by omega) hp
   ·rename_i hp
    obtain⟨h1,h2,h3⟩:=ih ((i+j) / 2 - i) (by omega) i ((i+j) / 2) (by omega) rfl
    refine⟨h1,by omega,fun hm=>?_⟩
    obtain⟨h4,h5⟩:=h3 (fun x y a b c d=>hm x y a b (by omega) d)
    refine⟨h4,fun x a b=>?_⟩
    by_cases e:x<(i+j) / 2
    ·exact h5 x a e
    ·cases hx:p x
     ·rfl
     ·exact absurd (hm ((i+j) / 2) x (by omega) (by omega) b hx) hp
  ·refine⟨by omega,by omega,fun hm=>⟨fun x a b=>by omega,fun x a b=>by omega⟩⟩
def mvU:Nat→Nat→List α→List α
 | 0,_,l=>l
 | n+1,k,l=>mvU n (k+1) (swp l k (k+1))
def mvD:Nat→Nat→List α→List α
 | 0,_,l=>l
 | n+1,k,l=>mvD n (k - 1) (swp l k (k - 1))
theorem zSb:∀{n k:Nat} {l:List α},k+n<l.length→Wit k (k+n+1) l (mvU n k l)∧(∀i,k≤i→i<k+n→nth (mvU n k l) i=nth l (i+1))∧nth (mvU n k l) (k+n)=nth l k
 | 0,k,l,_=>⟨Wit.refl ..,fun i _ _=>by omega,rfl⟩
 | n+1,k,l,h=>by
  have w:=zMy (l:=l) (a:=k) (b:=k+2) (i:=k) (j:=k+1) (by omega) (by omega) (by omega) (by omega) (by omega)
  have hw:∀q,nth (swp l k (k+1)) q=_:=fun q=>zDp (l:=l) (i:=k) (j:=k+1) (by omega) (by omega)
  obtain⟨h1,h2,h3⟩:=zSb (n:=n) (k:=k+1) (l:=swp l k (k+1)) (by simp;omega)
  show Wit _ _ _ (mvU n (k+1) (swp l k (k+1)))∧(∀i,_→_→nth (mvU n (k+1) (swp l k (k+1))) i=_)∧nth (mvU n (k+1) (swp l k (k+1))) _=_
  refine⟨(w.wide (by omega) (by omega)).trans (h1.wide (by omega) (by omega)),fun i a b=>?_,?_⟩
  ·by_cases e:i=k
   ·subst e
    rw[h1.out i (by omega),hw,if_neg (by omega),if_pos rfl]
   ·rw[h2 i (by omega) (by omega),hw,if_neg (by omega),if_neg (by omega)]
  ·rw[show k+(n+1)=k+1+n by omega,h3,hw,if_pos rfl]
theorem zTk:∀{n k:Nat} {l:List α},n≤k→k<l.length→Wit (k - n) (k+1) l (mvD n k l)∧(∀i,k - n<i→i≤k→nth (mvD n k l) i=nth l (i - 1))∧nth (mvD n k l) (k - n)=nth l k
 | 0,k,l,_,_=>⟨Wit.refl ..,fun i _ _=>by omega,rfl⟩
 | n+1,k,l,hn,h=>by
  have w:=zMy (l:=l) (a:=k - 1) (b:=k+1) (i:=k) (j:=k - 1) (by omega) (by omega) (by omega) (by omega) (by omega)
  have hw:∀q,nth (swp l k (k - 1)) q=_:=fun q=>zDp (l:=l) (i:=k) (j:=k - 1) (by omega) (by omega)
  obtain⟨h1,h2,h3⟩:=zTk (n:=n) (k:=k - 1) (l:=swp l k (k - 1)) (by omega) (by simp;omega)
  show Wit _ _ _ (mvD n (k - 1) (swp l k (k - 1)))∧(∀i,_→_→nth (mvD n (k - 1) (swp l k (k - 1))) i=_)∧nth (mvD n (k - 1) (swp l k (k - 1))) _=_
  refine⟨(w.wide (by omega) (by omega)).trans (h1.wide (by omega) (by omega)),fun i a b=>?_,?_⟩
  ·by_cases e:i=k
   ·subst e
    rw[h1.out i (by omega),hw,if_neg (by omega),if_pos rfl]
   ·rw[h2 i (by omega) (by omega),hw,if_neg (by omega),if_neg (by omega)]
  ·rw[show k - (n+1)=k - 1 - n by omega,h3,hw,if_pos rfl]
def swR:Nat→Nat→Nat→List α→List α
 | 0,_,_,l=>l
 | n+1,a,b,l=>swR n (a+1) (b+1) (swp l a b)
theorem zCz:∀{n a b:Nat} {l:List α},a+n≤b→b+n≤l.length→(swR n a b l).Perm l∧∀k,nth (swR n a b l) k=if a≤k∧k<a+n then nth l (k - a+b) else if b≤k∧k<b+n then nth l (k - b+a) else nth l k
 | 0,a,b,l,_,_=>⟨.refl _,fun k=>by rw[if_neg (by omega),if_neg (by omega)];rfl⟩
 | n+1,a,b,l,h1,h2=>by
  obtain⟨p,h⟩:=zCz (n:=n) (a:=a+1) (b:=b+1) (l:=swp l a b) (by omega) (by simp;omega)
  have hw:∀q,nth (swp l a b) q=_:=fun q=>zDp (l:=l) (i:=a) (j:=b) (by omega) (by omega)
  refine⟨p.trans (zOz (by omega) (by omega)),fun k=>?_⟩
  show nth (swR n (a+1) (b+1) (swp l a b)) k=_
  rw[h k]
  by_cases c1:a≤k∧k<a+(n+1)
  ·rw[if_pos c1]
   by_cases e:k=a
   ·subst e
    rw[if_neg (by omega),if_neg (by omega),hw,if_neg (by omega),if_pos rfl]
    congr 1;omega
   ·rw[if_pos (by omega),hw,if_neg (by omega),if_neg (by omega)]
    congr 1;omega
  ·rw[if_neg c1,if_neg (by omega)]
   by_cases c2:b≤k∧k<b+(n+1)
   ·rw[if_pos c2]
    by_cases e:k=b
    ·subst e
     rw[if_neg (by omega),hw,if_pos rfl]
     congr 1;omega
    ·rw[if_pos (by omega),hw,if_neg (by omega),if_neg (by omega)]
     congr 1;omega
   ·rw[if_neg c2,if_neg (by omega),hw,if_neg (by omega),if_neg (by omega)]
def rot (m i j:Nat) (l:List α):List α :=
 if i=0∨j=0 then l else if i=j then swR i (m - i) m l else if j<i then rot m (i - j) j (swR j (m - i) m l) else rot m i (j - i) (swR i (m - i) (m+j - i) l)
termination_by i + j
decreasing_by all_goals omega
theorem zYg {m:Nat}:∀(i j:Nat) (l:List α),i≤m→m+j≤l.length→(rot m i j l).Perm l∧∀k,nth (rot m i j l) k=if m - i≤k∧k<m - i+j then nth l (k+i) else if m - i+j≤k∧k<m+j then nth l (k - j) else nth l k:=by
 intro i j
 induction hd:i+j using Nat.strongRecOn generalizing i j with
 | _ d ih =>
  subst hd
  intro l hi hj
  unfold rot
  split
  ·rename_i h0
   refine⟨.refl _,fun k=>?_⟩
   by_cases c1:m - i≤k∧k<m - i+j
   ·rw[if_pos c1];congr 1;omega
   ·rw[if_neg c1]
    by_cases c2:m - i+j≤k∧k<m+j
    ·rw[if_pos c2];congr 1;omega
    ·rw[if_neg c2]
  ·rename_i h0
   split
   ·rename_i e
    subst e
    obtain⟨p,h⟩:=zCz (n:=i) (a:=m - i) (b:=m) (l:=l) (by omega) (by omega)
    refine⟨p,fun k=>?_⟩
    rw[h k]
    by_cases c1:m - i≤k∧k<m - i+i
    ·rw[if_pos c1,if_pos c1];congr 1;omega
    ·rw[if_neg c1,if_neg c1]
     by_cases c2:m≤k∧k<m+i
     ·rw[if_pos c2,if_pos (by omega)];congr 1;omega
     ·rw[if_neg c2,if_neg (by omega)]
   ·rename_i e
    split
    ·rename_i hlt
     obtain⟨p,h⟩:=zCz (n:=j) (a:=m - i) (b:=m) (l:=l) (by omega) (by omega)
     obtain⟨p2,h2⟩:=ih (i - j+j) (by omega) (i - j) j rfl (swR j (m - i) m l) (by omega) (by rw[p.length_eq];omega)
     refine⟨p2.trans p,fun k=>?_⟩
     rw[h2 k]
     by_cases c1:m - i≤k∧k<m - i+j
     ·rw[if_pos c1,if_neg (by omega),if_neg (by omega),h k,if_pos c1];congr 1;omega
     ·rw[if_neg c1]
      by_cases c2:m - i+j≤k∧k<m+j
      ·rw[if_pos c2]
       by_cases c3:m - (i - j)≤k∧k<m - (i - j)+j
       ·rw[if_pos c3,h,if_neg (by omega),if_pos (by omega)];congr 1;omega
       ·rw[if_neg c3,if_pos (by omega),h,if_neg (by omega),if_neg (by omega)]
      ·rw[if_neg c2,if_neg (by omega),if_neg (by omega),h,if_neg (by omega),if_neg (by omega)]
    ·rename_i hlt
     obtain⟨p,h⟩:=zCz (n:=i) (a:=m - i) (b:=m+j - i) (l:=l) (by omega) (by omega)
     obtain⟨p2,h2⟩:=ih (i+(j - i)) (by omega) i (j - i) rfl (swR i (m - i) (m+j - i) l) (by omega) (by rw[p.length_eq];omega)
     refine⟨p2.trans p,fun k=>?_⟩
     rw[h2 k]
     by_cases c1:m - i≤k∧k<m - i+j
     ·rw[if_pos c1]
      by_cases c3:m - i≤k∧k<m - i+(j - i)
      ·rw[if_pos c3,h]
       by_cases c4:m≤k+i
       ·rw[if_neg (by omega),if_neg (by omega)]
       ·omega
      ·rw[if_neg c3]
       by_cases c5:k<m+(j - i)
       ·rw[if_pos (by omega),h,if_pos (by omega)];congr 1;omega
       ·omega
     ·rw[if_neg c1]
      by_cases c2:m - i+j≤k∧k<m+j
      ·rw[if_pos c2,if_neg (by omega),if_neg (by omega),h,if_neg (by omega),if_pos (by omega)];congr 1;omega
      ·rw[if_neg c2,if_neg (by omega),if_neg (by omega),h,if_neg (by omega),if_neg (by omega)]
end
section
variable {α : Type} [Inhabited α] {lt : α→α→Bool}
def jM (lt:α→α→Bool) (a m b:Nat) (l:List α):Nat :=
 if(a+b) / 2<m then hlf (fun c=>!lt (nth l ((a+b) / 2+m - 1 - c)) (nth l c)) ((a+b) / 2+m - b) ((a+b) / 2)
 else hlf (fun c=>!lt (nth l ((a+b) / 2+m - 1 - c)) (nth l c)) a m
def zJ8 (s m mid:Nat) (l:List α):List α :=
 if s<m∧m<mid+m - s then rot m (m - s) (mid+m - s - m) l else l
def vV (lt:α→α→Bool):Nat→Nat→Nat→Nat→List α→List α
 | 0,_,_,_,l=>l
 | f+1,a,m,b,l =>
  if m - a=1 then mvU (hlf (fun h=>lt (nth l h) (nth l a)) m b - 1 - a) a l
  else if b - m=1 then mvD (m - hlf (fun h=>!lt (nth l m) (nth l h)) a m) m l
  else
   let s:=jM lt a m b l
   let e:=(a+b) / 2+m - s
   let l2:=if a<s∧s<(a+b) / 2 then vV lt f a s ((a+b) / 2) (zJ8 s m ((a+b) / 2) l) else zJ8 s m ((a+b) / 2) l
   if(a+b) / 2<e∧e<b then vV lt f ((a+b) / 2) e b l2 else l2
theorem sym1 (O:Ordr lt) {a b:Nat} {l:List α} (hab:a+1<b) (hb:b≤l.length) (h2:Srt lt (a+1) b l):Wit a b l (mvU (hlf (fun h=>lt (nth l h) (nth l a)) (a+1) b - 1 - a) a l)∧Srt lt a b (mvU (hlf (fun h=>lt (nth l h) (nth l a)) (a+1) b - 1 - a) a l):=by
 obtain⟨q1,q2,q3⟩:=zD4 (p:=fun h=>lt (nth l h) (nth l a)) (a+1) b (by omega)
 obtain⟨q4,q5⟩:=q3 (fun x y h1 hxy hy hp=>by
  cases hc:lt (nth l x) (nth l a)
  ·have:=O.ntr hc (h2 x y h1 hxy hy);have hp':lt (nth l y) (nth l a)=true:=hp;rw[hp'] at this;cases this
  ·rfl)
 generalize hlf (fun h=>lt (nth l h) (nth l a)) (a+1) b=i at *
 obtain⟨w,m1,m2⟩:=zSb (n:=i - 1 - a) (k:=a) (l:=l) (by omega)
 refine⟨w.wide (by omega) (by omega),fun p q hp hpq hq=>?_⟩
 rw[show a+(i - 1 - a)=i - 1 by omega] at *
 by_cases c1:q<i - 1
 ·rw[m1 p hp (by omega),m1 q (by omega) c1]
  exact h2 _ _ (by omega) (by omega) (by omega)
 ·by_cases c2:q=i - 1
  ·subst c2
   rw[m2]
   by_cases c3:p=i - 1
   ·subst c3;rw[m2];exact O.rfl' _
   ·rw[m1 p hp (by omega)]
    exact O.asym (q4 (p+1) (by omega) (by omega))
  ·rw[w.out q (by omega)]
   by_cases c3:p<i - 1
   ·rw[m1 p hp c3];exact h2 _ _ (by omega) (by omega) (by omega)
   ·by_cases c4:p=i - 1
    ·subst c4;rw[m2];exact q5 q (by omega) hq
    ·rw[w.out p (by omega)];exact h2 _ _ (by omega) hpq hq
theorem sym2 (O:Ordr lt) {a m:Nat} {l:List α} (ham:a<m) (hb:m+1≤l.length) (h1:Srt lt a m l):Wit a (m+1) l (mvD (m - hlf (fun h=>!lt (nth l m) (nth l h)) a m) m l)∧Srt lt a (m+1) (mvD (m - hlf (fun h=>!lt (nth l m) (nth l h)) a m) m l):=by
 obtain⟨q1,q2,q3⟩:=zD4 (p:=fun h=>!lt (nth l m) (nth l h)) a m (by omega)
 obtain⟨q4,q5⟩:=q3 (fun x y h2 hxy hy hp=>by
  simp only[Bool.not_eq_true'] at hp ⊢
  exact O.ntr (h1 x y h2 hxy hy) hp)
 generalize hlf (fun h=>!lt (nth l m) (nth l h)) a m=i at *
 obtain⟨w,m1,m2⟩:=zTk (n:=m - i) (k:=m) (l:=l) (by omega) (by omega)
 rw[show m - (m - i)=i by omega] at *
 refine⟨w.wide (by omega) (by omega),fun p q hp hpq hq=>?_⟩
 have q4':∀x,a≤x→x<i→lt (nth l m) (nth l x)=false:=fun x h2 h3=>by simpa using q4 x h2 h3
 have q5':∀x,i≤x→x<m→lt (nth l m) (nth l x)=true:=fun x h2 h3=>by simpa using q5 x h2 h3
 by_cases c1:q<i
 ·rw[w.out p (by omega),w.out q (by omega)];exact h1 _ _ hp hpq (by omega)
 ·by_cases c2:q=i
  ·subst c2
   rw[m2]
   by_cases c3:p=q
   ·subst c3;rw[m2];exact O.rfl' _
   ·rw[w.out p (by omega)];exact q4' p hp (by omega)
  ·rw[m1 q (by omega) (by omega)]
   by_cases c3:p<i
   ·rw[w.out p (by omega)];exact h1 _ _ hp (by omega) (by omega)
   ·by_cases c4:p=i
    ·subst c4;rw[m2];exact O.asym (q5' _ (by omega) (by omega))
    ·rw[m1 p (by omega) (by omega)];exact h1 _ _ (by omega) (by omega) (by omega)
theorem qAf (O:Ordr lt) {a m b:Nat} {l:List α} (h1:a<m) (h2:m<b) (s1:Srt lt a m l) (s2:Srt lt m b l) :
  a≤jM lt a m b l∧jM lt a m b l≤m∧jM lt a m b l≤(a+b) / 2∧m≤(a+b) / 2+m - jM lt a m b l∧(a+b) / 2+m - jM lt a m b l≤b ∧
  (∀x y,a≤x→x<jM lt a m b l→(a+b) / 2+m - jM lt a m b l≤y→y<b→lt (nth l y) (nth l x)=false) ∧
  (∀x y,m≤x→x<(a+b) / 2+m - jM lt a m b l→jM lt a m b l≤y→y<m→lt (nth l y) (nth l x)=false):=by
 have key:∀lo hi s,lo≤hi→a≤lo→hi≤m→hi≤(a+b) / 2→(a+b) / 2+m - lo≤b→m≤(a+b) / 2+m - hi→(lo=a∨(a+b) / 2+m - lo=b)→(hi=m∨(a+b) / 2+m - hi=m) →
   s=hlf (fun c=>!lt (nth l ((a+b) / 2+m - 1 - c)) (nth l c)) lo hi→a≤s∧s≤m∧s≤(a+b) / 2∧m≤(a+b) / 2+m - s∧(a+b) / 2+m - s≤b ∧
   (∀x y,a≤x→x<s→(a+b) / 2+m - s≤y→y<b→lt (nth l y) (nth l x)=false)∧(∀x y,m≤x→x<(a+b) / 2+m - s→s≤y→y<m→lt (nth l y) (nth l x)=false):=by
  intro lo hi s g1 g2 g3 g4 g5 g6 g7 g8 hs
  obtain⟨q1,q2,q3⟩:=zD4 (p:=fun c=>!lt (nth l ((a+b) / 2+m - 1 - c)) (nth l c)) lo hi g1
  rw[←hs] at q1 q2 q3
  obtain⟨q4,q5⟩:=q3 (fun x y hx hxy hy hp=>by
   simp only[Bool.not_eq_true'] at hp ⊢
   have e1:=s1 x y (by omega) hxy (by omega)
   have e2:=s2 ((a+b) / 2+m - 1 - y) ((a+b) / 2+m - 1 - x) (by omega) (by omega) (by omega)
   exact O.ntr (O.ntr e1 hp) e2)
  refine⟨by omega,by omega,by omega,by omega,by omega,fun x y hx1 hx2 hy1 hy2=>?_,fun x y hx1 hx2 hy1 hy2=>?_⟩
  ·have hlo:lo≤s - 1:=by omega
   have e0:=q4 (s - 1) hlo (by omega)
   simp only[Bool.not_eq_true'] at e0
   rw[show(a+b) / 2+m - 1 - (s - 1)=(a+b) / 2+m - s by omega] at e0
   exact O.ntr (O.ntr (s1 x (s - 1) hx1 (by omega) (by omega)) e0) (s2 _ y (by omega) hy1 hy2)
  ·have e0:=q5 s (by omega) (by omega)
   simp only[Bool.not_eq_false'] at e0
   have e0:=O.asym e0
   exact O.ntr (O.ntr (s2 x ((a+b) / 2+m - 1 - s) hx1 (by omega) (by omega)) e0) (s1 s y (by omega) hy1 hy2)
 unfold jM
 split
 ·exact key _ _ _ (by omega) (by omega) (by omega) (by omega) (by omega) (by omega) (.inr (by omega)) (.inr (by omega)) rfl
 ·exact key _ _ _ (by omega) (by omega) (by omega) (by omega) (by omega) (by omega) (.inl rfl) (.inl rfl) rfl
theorem zP3 {s m mid:Nat} {l:List α} (hs:s≤mid) (hs2:s≤m) (he:mid+m - s≤l.length) :
  (zJ8 s m mid l).Perm l∧∀k,nth (zJ8 s m mid l) k=if s≤k∧k<mid then nth l (k+(m - s)) else if mid≤k∧k<mid+m - s then nth l (k+s - mid) else nth l k:=by
 unfold zJ8
 split
 ·rename_i h
  obtain⟨p,q⟩:=zYg (m:=m) (m - s) (mid+m - s - m) l (by omega) (by omega)
  refine⟨p,fun k=>?_⟩
  rw[q k]
  by_cases c1:s≤k∧k<mid
  ·rw[if_pos c1,if_pos (by omega)]
  ·rw[if_neg c1,if_neg (by omega)]
   by_cases c2:mid≤k∧k<mid+m - s
   ·rw[if_pos c2,if_pos (by omega)];congr 1;omega
   ·rw[if_neg c2,if_neg (by omega)]
 ·rename_i h
  refine⟨.refl _,fun k=>?_⟩
  by_cases c1:s≤k∧k<mid
  ·rw[if_pos c1];congr 1;omega
  ·rw[if_neg c1]
   by_cases c2:mid≤k∧k<mid+m - s
   ·rw[if_pos c2];congr 1;omega
   ·rw[if_neg c2]
theorem zJ2 (O:Ordr lt):∀(f a m b:Nat) (l:List α),b - a≤f→a<m→m<b→b≤l.length→Srt lt a m l→Srt lt m b l→Wit a b l (vV lt f a m b l)∧Srt lt a b (vV lt f a m b l)
 | 0,a,m,b,l,hf,h1,h2,hb,s1,s2=>by omega
 | f+1,a,m,b,l,hf,h1,h2,hb,s1,s2=>by
  unfold vV
  split
  ·rename_i h
   obtain rfl:m=a+1:=by omega
   exact sym1 O (by omega) hb s2
  ·split
   ·rename_i h
    obtain rfl:b=m+1:=by omega
    exact sym2 O h1 hb s1
   ·rename_i n1 n2
    obtain⟨r1,r2,r3,r4,r5,r6,r7⟩:=qAf O h1 h2 s1 s2
    simp only
    generalize jM lt a m b l=s at *
    generalize hmid:(a+b) / 2=mid at *
    obtain⟨p,hn⟩:=zP3 (s:=s) (m:=m) (mid:=mid) (l:=l) r3 r2 (by omega)
    generalize zJ8 s m mid l=l1 at *
    have w1:Wit a b l l1:=by
     refine⟨p,fun k hk=>?_,fun k ha hk=>?_⟩
     ·rw[hn k,if_neg (by omega),if_neg (by omega)]
     ·rw[hn k]
      by_cases c1:s≤k∧k<mid
      ·rw[if_pos c1];exact⟨_,by omega,by omega,rfl⟩
      ·rw[if_neg c1]
       by_cases c2:mid≤k∧k<mid+m - s
       ·rw[if_pos c2];exact⟨_,by omega,by omega,rfl⟩
       ·rw[if_neg c2];exact⟨_,ha,hk,rfl⟩
    have t1:Srt lt a s l1:=fun i j g1 g2 g3=>by
     rw[hn i,hn j,if_neg (by omega),if_neg (by omega),if_neg (by omega),if_neg (by omega)];exact s1 i j g1 g2 (by omega)
    have t2:Srt lt s mid l1:=fun i j g1 g2 g3=>by
     rw[hn i,hn j,if_pos (by omega),if_pos (by omega)];exact s2 _ _ (by omega) (by omega) (by omega)
    have t3:Srt lt mid (mid+m - s) l1:=fun i j g1 g2 g3=>by
     rw[hn i,hn j,if_neg (by omega),if_pos (by omega),if_neg (by omega),if_pos (by omega)];exact s1 _ _ (by omega) (by omega) (by omega)
    have t4:Srt lt (mid+m - s) b l1:=fun i j g1 g2 g3=>by
     rw[hn i,hn j,if_neg (by omega),if_neg (by omega),if_neg (by omega),if_neg (by omega)];exact s2 _ _ (by omega) (by omega) (by omega)
    have tc:∀x y,a≤x→x<mid→mid≤y→y<b→lt (nth l1 y) (nth l1 x)=false:=fun x y g1 g2 g3 g4=>by
     by_cases c1:x<s
     ·rw[show nth l1 x=nth l x by rw[hn x,if_neg (by omega),if_neg (by omega)]]
      by_cases c2:y<mid+m - s
      ·rw[hn y,if_neg (by omega),if_pos (by omega)];exact s1 _ _ (by omega) (by omega) (by omega)
      ·rw[hn y,if_neg (by omega),if_neg (by omega)];exact r6 _ _ (by omega) (by omega) (by omega) (by omega)
     ·rw[show nth l1 x=nth l (x+(m - s)) by rw[hn x,if_pos (by omega)]]
      by_cases c2:y<mid+m - s
      ·rw[hn y,if_neg (by omega),if_pos (by omega)];exact r7 _ _ (by omega) (by omega) (by omega) (by omega)
      ·rw[hn y,if_neg (by omega),if_neg (by omega)];exact s2 _ _ (by omega) (by omega) (by omega)
    have hl1:=w1.len
    have A:Wit a mid l1 (if a<s∧s<mid then vV lt f a s mid l1 else l1)∧Srt lt a mid (if a<s∧s<mid then vV lt f a s mid l1 else l1):=by
     split
     ·rename_i h
      exact zJ2 O f a s mid l1 (by omega) h.1 h.2 (by omega) t1 t2
     ·rename_i h
      refine⟨Wit.refl ..,?_⟩
      by_cases c:s=a
      ·subst c;exact t2
      ·obtain rfl:s=mid:=by omega
       exact t1
    generalize (if a<s∧s<mid then vV lt f a s mid l1 else l1)=l2 at *
    obtain⟨w2,u1⟩:=A
    have hl2:=w2.len
    have t3':=t3.out w2 (.inr (Nat.le_refl _))
    have t4':=t4.out w2 (.inr (by omega))
    have B:Wit mid b l2 (if mid<mid+m - s∧mid+m - s<b then vV lt f mid (mid+m - s) b l2 else l2)∧Srt lt mid b (if mid<mid+m - s∧mid+m - s<b then vV lt f mid (mid+m - s) b l2 else l2):=by
     split
     ·rename_i h
      exact zJ2 O f mid (mid+m - s) b l2 (by omega) h.1 h.2 (by omega) t3' t4'
     ·rename_i h
      refine⟨Wit.refl ..,?_⟩
      by_cases c:mid+m - s=b
      ·rw[←c];exact t3'
      ·have:mid=mid+m - s:=by omega
       rw[←this] at t4';exact t4'
    generalize (if mid<mid+m - s∧mid+m - s<b then vV lt f mid (mid+m - s) b l2 else l2)=l3 at *
    obtain⟨w3,u2⟩:=B
    refine⟨(w1.trans (w2.wide (Nat.le_refl _) (by omega))).trans (w3.wide (by omega) (Nat.le_refl _)),fun x y g1 g2 g3=>?_⟩
    by_cases c1:y<mid
    ·rw[w3.out x (by omega),w3.out y (by omega)];exact u1 x y g1 g2 c1
    ·by_cases c2:mid≤x
     ·exact u2 x y c2 g2 g3
     ·obtain⟨y',y1,y2,e1⟩:=w3.mem y (by omega) g3
      obtain⟨x',x1,x2,e2⟩:=w2.mem x g1 (by omega)
      rw[e1,w3.out x (by omega),e2,w2.out y' (by omega)]
      exact tc x' y' x1 x2 y1 y2
end
end Go.Proofs.YtbcgenkegnmkhaaGreat.Ev
namespace Go.Proofs.YtbcgenkegnmkhaaGreat.Ev
set_option linter.unusedSectionVars false
section
variable {α : Type} [Inhabited α] {lt : α→α→Bool}
def blk (g:Nat→List α→List α) (w n:Nat):Nat→Nat→List α→Nat×List α
 | 0,a,l=>(a,l)
 | f+1,a,l=>if a+w≤n then blk g w n f (a+w) (g a l) else(a,l)
theorem zSj {g:Nat→List α→List α} {w n:Nat} {l0:List α} (hw:1≤w) (hn:n≤l0.length)
  (hg:∀k l',k * w+w≤n→l'.length=l0.length→(∀i,k * w≤i→nth l' i=nth l0 i)→Wit (k * w) (k * w+w) l' (g (k * w) l')∧Srt lt (k * w) (k * w+w) (g (k * w) l')) :
  ∀(f k:Nat) (l':List α),n≤f+k * w→k * w≤n→Wit 0 (k * w) l0 l'→(∀j,j<k→Srt lt (j * w) (j * w+w) l') →
  ∃K,(blk g w n f (k * w) l').1=K * w∧K * w≤n∧n<K * w+w∧Wit 0 (K * w) l0 (blk g w n f (k * w) l').2∧∀j,j<K→Srt lt (j * w) (j * w+w) (blk g w n f (k * w) l').2
 | 0,k,l',h1,h2,h3,h4=>⟨k,rfl,h2,by omega,h3,h4⟩
 | f+1,k,l',h1,h2,h3,h4=>by
  unfold blk
  split
  ·rename_i h
   obtain⟨w1,s1⟩:=hg k l' h h3.len (fun i hi=>h3.out i (.inr hi))
   rw[show k * w+w=(k+1) * w by rw[Nat.succ_mul]] at *
   refine zSj hw hn hg f (k+1) _ (by rw[Nat.succ_mul];omega) h ((h3.wide (Nat.le_refl _) (by rw[Nat.succ_mul];omega)).trans (w1.wide (Nat.zero_le _) (Nat.le_refl _))) (fun j hj=>?_)
   by_cases e:j=k
   ·subst e;rw[show j * w+w=(j+1) * w by rw[Nat.succ_mul]];exact s1
   ·have hjk:j * w+w≤k * w:=by
     rw[←Nat.succ_mul];exact Nat.mul_le_mul_right _ (by omega)
    exact(h4 j (by omega)).out w1 (.inl hjk)
  ·rename_i h
   exact⟨k,rfl,h2,by omega,h3,h4⟩
def Blks (lt:α→α→Bool) (w n:Nat) (l:List α):Prop:=∀k,k * w<n→Srt lt (k * w) (min (k * w+w) n) l
def qEw (lt:α→α→Bool) (n:Nat) (l:List α):List α :=
 ins lt (blk (fun a l=>ins lt a (a+20) l) 20 n n 0 l).1 n (blk (fun a l=>ins lt a (a+20) l) 20 n n 0 l).2
theorem qBb (O:Ordr lt) {n:Nat} {l:List α} (hn:n≤l.length):Wit 0 n l (qEw lt n l)∧Blks lt 20 n (qEw lt n l):=by
 unfold qEw
 obtain⟨K,e,h1,h2,w1,s1⟩:=zSj (lt:=lt) (g:=fun a l=>ins lt a (a+20) l) (w:=20) (n:=n) (l0:=l) (by omega) hn (fun k l' hk hl _=>zLg O (by omega)) n 0 l (by omega) (by omega) (by rw[Nat.zero_mul];exact Wit.refl ..) (fun j hj=>by omega)
 rw[Nat.zero_mul] at e w1 s1
 rw[e]
 generalize (blk (fun a l=>ins lt a (a+20) l) 20 n n 0 l).2=l2 at *
 have hl:=w1.len
 obtain⟨w2,s2⟩:=zLg O (a:=K * 20) (b:=n) (l:=l2) (by omega)
 refine⟨(w1.wide (Nat.le_refl _) h1).trans (w2.wide (Nat.zero_le _) (Nat.le_refl _)),fun k hk=>?_⟩
 by_cases c1:k<K
 ·rw[Nat.min_eq_left (by omega)]
  exact(s1 k c1).out w2 (.inl (by omega))
 ·obtain rfl:k=K:=by omega
  rw[Nat.min_eq_right (by omega)];exact s2
def mrg (lt:α→α→Bool) (w n:Nat) (l:List α):List α :=
 if(blk (fun a l=>vV lt (2 * w) a (a+w) (a+2 * w) l) (2 * w) n n 0 l).1+w<n then vV lt (2 * w) (blk (fun a l=>vV lt (2 * w) a (a+w) (a+2 * w) l) (2 * w) n n 0 l).1 ((blk (fun a l=>vV lt (2 * w) a (a+w) (a+2 * w) l) (2 * w) n n 0 l).1+w) n (blk (fun a l=>vV lt (2 * w) a (a+w) (a+2 * w) l) (2 * w) n n 0 l).2
 else(blk (fun a l=>vV lt (2 * w) a (a+w) (a+2 * w) l) (2 * w) n n 0 l).2
theorem qHl (O:Ordr lt) {w n:Nat} {l:List α} (hw:1≤w) (hn:n≤l.length) (hB:Blks lt w n l):Wit 0 n l (mrg lt w n l)∧Blks lt (2 * w) n (mrg lt w n l):=by
 unfold mrg
 have h2w:∀k,k * (2 * w)=2 * k * w:=fun k=>by rw[Nat.mul_comm 2 k,Nat.mul_assoc]
 have h2s:∀k,(2 * k+1) * w=2 * k * w+w:=fun k=>by rw[Nat.succ_mul]
 obtain⟨K,e,h1,h2,w1,s1⟩:=zSj (lt:=lt) (g:=fun a l=>vV lt (2 * w) a (a+w) (a+2 * w) l) (w:=2 * w) (n:=n) (l0:=l) (by omega) hn (fun k l' hk hl hs=>by
  have b1:=hB (2 * k) (by rw[h2w] at hk;omega)
  have b2:=hB (2 * k+1) (by rw[h2w] at hk;rw[h2s];omega)
  rw[h2s] at b2
  rw[←h2w] at b1 b2
  rw[Nat.min_eq_left (by omega)] at b1 b2
  exact zJ2 O (2 * w) (k * (2 * w)) (k * (2 * w)+w) (k * (2 * w)+2 * w) l' (by omega) (by omega) (by omega) (by omega)
   (fun i j g1 g2 g3=>by rw[hs i (by omega),hs j (by omega)];exact b1 i j g1 g2 g3)
   (fun i j g1 g2 g3=>by rw[hs i (by omega),hs j (by omega)];exact b2 i j g1 g2 (by omega))) n 0 l (by omega) (by omega) (by rw[Nat.zero_mul];exact Wit.refl ..) (fun j hj=>by omega)
 rw[Nat.zero_mul] at e w1 s1
 rw[e]
 generalize (blk (fun a l=>vV lt (2 * w) a (a+w) (a+2 * w) l) (2 * w) n n 0 l).2=l2 at *
 have hl:=w1.len
 have hlow:∀k l3,k<K→Wit (K * (2 * w)) n l2 l3→Srt lt (k * (2 * w)) (min (k * (2 * w)+2 * w) n) l3:=fun k l3 hk w3=>by
  have hkk:k * (2 * w)+2 * w≤K * (2 * w):=by
   rw[←Nat.succ_mul];exact Nat.mul_le_mul_right _ (by omega)
  rw[Nat.min_eq_left (by omega)]
  exact(s1 k hk).out w3 (.inl hkk)
 have hhi:∀k,K<k→¬k * (2 * w)<n:=fun k hk=>by
  have hkk:K * (2 * w)+2 * w≤k * (2 * w):=by
   rw[←Nat.succ_mul];exact Nat.mul_le_mul_right _ (by omega)
  omega
 split
 ·rename_i hlt
  have b1:=hB (2 * K) (by rw[h2w] at hlt;omega)
  have b2:=hB (2 * K+1) (by rw[h2w] at hlt;rw[h2s];omega)
  rw[h2s] at b2
  rw[←h2w] at b1 b2
  rw[Nat.min_eq_left (by omega)] at b1
  rw[Nat.min_eq_right (by omega)] at b2
  obtain⟨w2,s2⟩:=zJ2 O (2 * w) (K * (2 * w)) (K * (2 * w)+w) n l2 (by omega) (by omega) hlt (by omega)
   (fun i j g1 g2 g3=>by rw[w1.out i (by omega),w1.out j (by omega)];exact b1 i j g1 g2 g3)
   (fun i j g1 g2 g3=>by rw[w1.out i (by omega),w1.out j (by omega)];exact b2 i j g1 g2 g3)
  refine⟨(w1.wide (Nat.le_refl _) h1).trans (w2.wide (Nat.zero_le _) (Nat.le_refl _)),fun k hk=>?_⟩
  by_cases c1:k<K
  ·exact hlow k _ c1 w2
  ·by_cases c2:k=K
   ·subst c2;rw[Nat.min_eq_right (by omega)];exact s2
   ·exact absurd hk (hhi k (by omega))
 ·rename_i hlt
  refine⟨w1.wide (Nat.le_refl _) h1,fun k hk=>?_⟩
  by_cases c1:k<K
  ·exact hlow k _ c1 (Wit.refl ..)
  ·by_cases c2:k=K
   ·subst c2
    have b1:=hB (2 * k) (by rw[h2w] at hk;omega)
    rw[←h2w] at b1
    rw[Nat.min_eq_right (by omega)] at b1 ⊢
    intro i j g1 g2 g3
    rw[w1.out i (by omega),w1.out j (by omega)];exact b1 i j g1 g2 g3
   ·exact absurd hk (hhi k (by omega))
def zTe (lt:α→α→Bool) (n:Nat):Nat→Nat→List α→List α
 | 0,_,l=>l
 | f+1,w,l=>if w<n then zTe lt n f (2 * w) (mrg lt w n l) else l
theorem zUp (O:Ordr lt) {n:Nat}:∀(f w:Nat) (l:List α),n≤f+w→1≤w→n≤l.length→Blks lt w n l→Wit 0 n l (zTe lt n f w l)∧Srt lt 0 n (zTe lt n f w l)
 | 0,w,l,hf,hw,hn,hB=>by
  refine⟨Wit.refl ..,fun i j g1 g2 g3=>?_⟩
  have b:=hB 0 (by omega)
  rw[Nat.zero_mul,Nat.min_eq_right (by omega)] at b
  exact b i j g1 g2 g3
 | f+1,w,l,hf,hw,hn,hB=>by
  unfold zTe
  split
  ·rename_i h
   obtain⟨w1,b1⟩:=qHl O hw hn hB
   obtain⟨w2,s2⟩:=zUp O f (2 * w) _ (by omega) (by omega) (by rw[w1.len];exact hn) b1
   exact⟨w1.trans w2,s2⟩
  ·rename_i h
   refine⟨Wit.refl ..,fun i j g1 g2 g3=>?_⟩
   have b:=hB 0 (by omega)
   rw[Nat.zero_mul,Nat.min_eq_right (by omega)] at b
   exact b i j g1 g2 g3
def stb (lt:α→α→Bool) (l:List α):List α:=zTe lt l.length l.length 20 (qEw lt l.length l)
theorem zOj (O:Ordr lt) (l:List α):(stb lt l).Perm l∧Srt lt 0 l.length (stb lt l):=by
 obtain⟨w1,b1⟩:=qBb O (n:=l.length) (l:=l) (Nat.le_refl _)
 obtain⟨w2,s2⟩:=zUp O l.length 20 _ (by omega) (by omega) (by rw[w1.len];exact Nat.le_refl _) b1
 exact⟨(w1.trans w2).perm,s2⟩
end
end Go.Proofs.YtbcgenkegnmkhaaGreat.Ev
namespace Go.Proofs.YtbcgenkegnmkhaaGreat.Ev
open Go
set_option maxRecDepth 100000
set_option linter.unusedSimpArgs false
set_option linter.unusedVariables false
set_option maxHeartbeats 2000000
section
variable {call : Call} {id base : Nat} {e : List (Nat × V)} {o : List (Nat × Ob)} {n : Nat} {t : TypeId} {K : V→List (Nat × Ob)→Prop}
theorem cI {args:Array Operand} {ts:Array TypeId} {fo:Operand} {f:FuncId} {q m:Nat} {vs ys:List V} {ob:Ob} {o1:List (Nat×Ob)} (hx:jX e args.toList=some (.ref q 0 m::vs):=by exact rfl) (hf:opV e fo=some (.clo f []):=by exact rfl) (hB:cf.inB f=false:=by(rw[zCp];rfl)) (hmd:cf.md f=[.io]:=by(rw[xW];rfl)) (ho:zN o q=some ob:=by exact rfl) (hb:ob.bx=false:=by rfl) (hl:m=ob.xs.length:=by first|rfl|(simp;done)|(simp;omega))
  (hc:call f (.iol ob.sz ob.xs::vs)=some (.tup [],[.lst true ob.sz ys])) (hal:V.alikeL ob.xs ys=true) (hd:jU o q=o1:=by(simp;rfl)) (hlv:∀s:St,jJ [] vs s=some (vs,s,[]):=by intro s;rfl) (hsv:∀s:St,jC s [] vs=some vs:=by intro s;rfl) (hp:xB [.io] (.ref q 0 m::vs)=[]:=by rfl)
  (h:K (.tup []) ((q,⟨false,ob.fx,ob.sz,ys,ob.ver+1⟩)::o1)):opK call cf id base e o n t (.call ⟨.value fo,args,ts⟩) K:=by
 subst hd hl
 refine zP1 hx hf hB rfl (bs:=.iol ob.sz ob.xs::vs) (s1:=⟨e,jU o q,n⟩) (lent:=[(q,ob)]) (asv:=.iol ob.sz ob.xs::vs) (ro:=[.lst true ob.sz ys]) (s2:=⟨e,(q,⟨false,ob.fx,ob.sz,ys,ob.ver+1⟩)::jU o q,n⟩) ?_ ?_ hc rfl ?_ ?_ rfl ?_
 ·rw[hmd,List.append_nil]
  simp only[jJ,qT,List.headD_cons,List.tail_cons,ho,hb,if_true,and_self,hlv,List.append_nil]
 ·rw[hmd]
  simp only[jC,List.headD_cons,List.tail_cons,hsv,V.snapA,V.snapP,V.snap,zK]
 ·rw[hmd,List.append_nil,hp]
  exact⟨.inl rfl,by simp[V.thaw]⟩
 ·simp only[xX,yC,hb,hal,Bool.false_eq_true,if_false,and_self,if_true,yH]
 ·exact h
end
theorem jT {a b:Int} {c:Nat} (h:a - b=c) (hc:c<4000000000000000000):zE6 .sub .i64 a b=some (.int .i64 c):=by
 simp only[zE6];rw[qH (by omega) (by omega),h]
theorem kG {a b:Int} {c:Nat} (h:a+b=c) (hc:c<4000000000000000000):zE6 .add .i64 a b=some (.int .i64 c):=by
 simp only[zE6];rw[qH (by omega) (by omega),h]
theorem zL3 {a b:Int} {c:Nat} (h:a * b=c) (hc:c<4000000000000000000):zE6 .mul .i64 a b=some (.int .i64 c):=by
 simp only[zE6];rw[qH (by omega) (by omega),h]
@[simp] theorem Ct.ne_undC (x:Ct):(x.v=V.und)=False:=by simp[Ct.v]
theorem zMc {a b:Nat}:((a:Int)+(b:Int)).toNat=a+b:=by omega
instance:Inhabited Ct:=⟨⟨0,0,0⟩⟩
def ltC (a b:Ct):Bool:=decide (byC a b<0)
theorem jO {r:List Ct} {j:Nat} (h:j<r.length):(cts r)[j]? = some (nth r j).v:=by
 simp[cts,zDo h]
theorem zEm {r:List Ct} {j:Nat} {x:Ct}:(cts r).set j x.v=cts (r.set j x):=by simp[cts,List.map_set]
theorem bub_t {α:Type} [Inhabited α] {lt:α→α→Bool} {a j:Nat} {l:List α} (h:a<j) (h2:lt (nth l j) (nth l (j - 1))=true):bub lt a j l=bub lt a (j - 1) (swp l j (j - 1)):=by
 obtain⟨k,rfl⟩:∃k,j=k+1:=⟨j - 1,by omega⟩
 conv=>lhs;unfold bub
 rw[if_pos ⟨h,h2⟩];rfl
theorem bub_f {α:Type} [Inhabited α] {lt:α→α→Bool} {a j:Nat} {l:List α} (h:¬(a<j∧lt (nth l j) (nth l (j - 1))=true)):bub lt a j l=l:=by
 cases j with
 | zero=>rfl
 | succ k=>unfold bub;exact if_neg h
theorem qGm (a b i N:Nat) (hN:N<2000000) (hb:b≤N) (hai:a<i) (hib:i<b):∀x:Nat×(List Ct),(a≤x.1∧x.1≤i∧x.2.length=N)→∀s,zI 4 (some [0,1,2,3,8,9]) s=⟨[(0,.ref 0 0 N),(1,.int .i64 a),(2,.int .i64 b),(3,.clo 181 []),(8,.int .i64 i),(9,.int .i64 x.1)],[(0,⟨false,true,3,cts x.2,0⟩)],4⟩ →
 oc.loop 264 4 s=some (.exit 2,⟨[(0,.ref 0 0 N),(1,.int .i64 a),(2,.int .i64 b),(3,.clo 181 []),(8,.int .i64 i)],[(0,⟨false,true,3,cts (bub ltC a x.1 x.2),0⟩)],4⟩):=by
 refine zW (σ:=Nat×(List Ct)) (fun x=>x.1) _ (fun x=>⟨[(0,.ref 0 0 N),(1,.int .i64 a),(2,.int .i64 b),(3,.clo 181 []),(8,.int .i64 i),(9,.int .i64 x.1)],[(0,⟨false,true,3,cts x.2,0⟩)],4⟩) _ ?_
 rintro⟨j,r⟩ hi ih s hs
 simp only at hi
 refine qB qCd rfl rfl hs ?_
 obtain⟨hi1,hi2,hi3⟩:=hi
 have g1:(cts r)[j]? = some (nth r j).v:=jO (by omega)
 have g2:(cts r)[j - 1]? = some (nth r (j - 1)).v:=jO (by omega)
 refine wa_ (wa_ (qE (y_ (m_ (h:=ax_ (h:=y_ (m_ (h:=ax_ (h:=y_ (b_ (h:=ax_ (h:=y_ (m_ (h:=ax_ (h:=?_)))))))))))))))
 refine gw_ (h1:=?_) (h2:=?_)
 rotate_right 1
 focus
  intro c1
  first
  | exact dn c1
  | (
   have d1:=c1;try simp at d1
   refine gd_ (h:=gd_ (h:=gd_ (h:=gd_ (h:=gd_ (h:=gd_ (h:=gd_ (h:=gd_ (h:=gd_ (h:=gd_ (h:=gd_ (h:=gd_ (h:=?_))))))))))))
   )
 rotate_right 1
 focus
  intro c1
  first
  | exact dn c1
  | (
   have d1:=c1;try simp at d1
   refine g_ (h:=y_ (m_ (h:=ax_ (h:=g_ (h:=y_ (m_ (h:=ax_ (h:=g_ (h:=y_ (m_ (h:=ax_ (h:=g_ (h:=y_ (x_ (h:=ax_ (h:=g_ (h:=y_ (l_ (h:=ax_ (h:=g_ (h:=y_ (m_ (h:=ax_ (h:=g_ (h:=y_ (m_ (h:=ax_ (h:=g_ (h:=y_ (?_))))))))))))))))))))))))))))))
   refine b_ (hv:=jT (c:=j - 1) (by omega) (by omega)) (h:=?_)
   refine ax_ (h:=g_ (h:=y_ (x_ (h:=ax_ (h:=g_ (h:=y_ (l_ (h:=ax_ (h:=g_ (h:=y_ (ca (hc:=zQg (nth r j) (nth r (j - 1))) (h:=ax_ (h:=g_ (h:=y_ (b_ (h:=ax_ (h:=?_)))))))))))))))))
   )
 all_goals
  refine y_ (pk (h:=ax_ (h:=zC (ed (h:=?_)))))
 all_goals first
 | (
  refine zA ?_
  refine c_ (h1:=?_) (h2:=?_)
  rotate_right 1
  focus
   intro c2
   first
   | exact dn c2
   | (
    have d2:=c2;try simp at d2
    refine zX (?_)
    )
  rotate_right 1
  focus
   intro c2
   first
   | exact dn c2
   | (
    have d2:=c2;try simp at d2
    have g3:(cts (r.set j (nth r (j - 1))))[j - 1]? = some (nth (r.set j (nth r (j - 1))) (j - 1)).v:=jO (by simp;omega)
    refine zD (?_)
    )
  )
 all_goals first
 | refine zS ?_
 | (
  refine zA ?_
  refine wa_ (zG (qE (y_ (m_ (h:=ax_ (h:=y_ (m_ (h:=ax_ (h:=y_ (m_ (h:=ax_ (h:=y_ (m_ (h:=ax_ (h:=y_ (?_))))))))))))))))
  refine b_ (hv:=jT (c:=j - 1) (by omega) (by omega)) (h:=?_)
  refine ax_ (h:=y_ (m_ (h:=ax_ (h:=y_ (m_ (h:=ax_ (h:=y_ (?_))))))))
  refine b_ (hv:=jT (c:=j - 1) (by omega) (by omega)) (h:=?_)
  refine ax_ (h:=y_ (x_ (h:=ax_ (h:=y_ (l_ (h:=ax_ (h:=y_ (m_ (h:=ax_ (h:=y_ (m_ (h:=ax_ (h:=y_ (x_ (h:=ax_ (h:=y_ (l_ (h:=ax_ (h:=y_ (x_ (h:=ax_ (h:=y0 (s_ (h:=ax_ (h:=y_ (x_ (h:=ax_ (h:=y0 (s_ (h:=ax_ (h:=zC (ed (h:=?_)))))))))))))))))))))))))))))))))
  refine zJ (zA (zB (w_ (m_ (h:=w_ (?_))))))
  refine b_ (hv:=jT (c:=j - 1) (by omega) (by omega)) (h:=?_)
  refine w_ (a_ (h:=zC (e_ (h:=?_))))
  )
 all_goals first
 | (refine(ih ((j - 1,swp r j (j - 1))) (⟨by simp only;omega,by simp only;omega,by simp;omega⟩) ?_ _ ?_).trans ?_;(focus (first|omega|(simp;done)|(simp;omega)));(focus (simp[zI,zEm,swp];done));(focus (rw[bub_t (lt:=ltC) (a:=a) (j:=j) (l:=r) (by omega) (by simp[ltC];omega)])))
 | (apply zM (ex:=(Ext.exit 2)) 4 (some [0,1,2,3,8]);(focus (simp[zI];rfl));(focus (rw[bub_f (by simp[ltC];omega)])))
theorem qH6 (a b N:Nat) (hN:N<2000000) (hb:b≤N):∀x:Nat×(List Ct),(a<x.1∧x.2.length=N)→∀s,zI 4 (some [0,1,2,3,8]) s=⟨[(0,.ref 0 0 N),(1,.int .i64 a),(2,.int .i64 b),(3,.clo 181 []),(8,.int .i64 x.1)],[(0,⟨false,true,3,cts x.2,0⟩)],4⟩ →
 oc.loop 264 1 s=some (.exit 0,⟨[],[(0,⟨false,true,3,cts (qDv ltC a (b - x.1) x.1 x.2),0⟩)],4⟩):=by
 refine zW (σ:=Nat×(List Ct)) (fun x=>b - x.1) _ (fun x=>⟨[(0,.ref 0 0 N),(1,.int .i64 a),(2,.int .i64 b),(3,.clo 181 []),(8,.int .i64 x.1)],[(0,⟨false,true,3,cts x.2,0⟩)],4⟩) _ ?_
 rintro⟨i,r⟩ hi ih s hs
 simp only at hi
 refine qB qCd rfl rfl hs ?_
 obtain⟨hi1,hi2⟩:=hi
 refine wa_ (wa_ (zB (w_ (m_ (h:=w_ (m_ (h:=w_ (b_ (h:=zC (e_ (h:=zA (?_))))))))))))
 refine c_ (h1:=?_) (h2:=?_)
 rotate_right 1
 focus
  intro c1
  first
  | exact dn c1
  | (
   have d1:=c1;try simp at d1
   refine zX (?_)
   )
 rotate_right 1
 focus
  intro c1
  first
  | exact dn c1
  | (
   have d1:=c1;try simp at d1
   have hw:=zV (i:=i) (by omega);have wb:=zN2 (lt:=ltC) (a:=a) (b:=N) (j:=i) (l:=r) (by omega) (by omega) (by omega);have hbl:=wb.len
   refine zD (?_)
   )
 all_goals first
 | refine zS ?_
 | (
  refine zA ?_
  refine wa_ (zG (wa_ (zB (w_ (m_ (h:=w_ (a_ (h:=zC (e_ (h:=zA (zG (?_))))))))))))
  refine qF (qGm a b i N hN hb hi1 (by omega) (i,r) ⟨by simp only;omega,by simp,hi2⟩ _ (by simp[zI])) ?_
  refine zT (zJ (zA (zB (w_ (m_ (h:=w_ (b_ (h:=w_ (a_ (h:=zC (e_ (h:=?_))))))))))))
  )
 all_goals first
 | (refine(ih ((i+1,bub ltC a i r)) (⟨by simp only;omega,by simp;omega⟩) ?_ _ ?_).trans ?_;(focus (first|omega|(simp;done)|(simp;omega)));(focus (simp[zI,hw];done));(focus (rw[show b - i=(b - (i+1))+1 by omega];rfl)))
 | (apply zM (ex:=(Ext.exit 0)) 4 (some []);(focus (simp[zI];rfl));(focus (rw[show b - i=0 by omega];rfl)))
theorem zZ3 (a b:Nat) (l:List Ct) (hN:l.length<2000000) (hb:b≤l.length) (ha:a<2000000):oc.call 264 [.iol 3 (cts l),.int .i64 a,.int .i64 b,.clo 181 []]=some (.tup [],[.lst true 3 (cts (ins ltC a b l))]):=by
 refine qD rfl qCd rfl rfl rfl (by simp;rfl) (by simp;rfl) ?_
 have hw:=zV (i:=a) (by omega)
 refine wa_ (zB (w_ (m_ (h:=w_ (b_ (h:=w_ (a_ (h:=zC (e_ (h:=zA (zG (?_))))))))))))
 refine qF (qH6 a b l.length hN hb (a+1,l) ⟨by simp,rfl⟩ _ (by simp[zI,hw])) ?_
 refine zT (?_)
 all_goals (refine qZ (hr:=zO) (h:=?_);(focus (simp[ins])))
theorem l_swR (n a0 b0 N:Nat) (hN:N<2000000) (h1:a0+n≤b0) (h2:b0+n≤N):∀x:Nat×(List Ct),(x.1≤n∧x.2.length=N)→∀s,zI 5 (some [0,1,2,3,10]) s=⟨[(0,.ref 0 0 N),(1,.int .i64 a0),(2,.int .i64 b0),(3,.int .i64 n),(10,.int .i64 x.1)],[(0,⟨false,true,3,cts x.2,0⟩)],5⟩ →
 oc.loop 284 1 s=some (.exit 0,⟨[],[(0,⟨false,true,3,cts (swR (n - x.1) (a0+x.1) (b0+x.1) x.2),0⟩)],5⟩):=by
 refine zW (σ:=Nat×(List Ct)) (fun x=>n - x.1) _ (fun x=>⟨[(0,.ref 0 0 N),(1,.int .i64 a0),(2,.int .i64 b0),(3,.int .i64 n),(10,.int .i64 x.1)],[(0,⟨false,true,3,cts x.2,0⟩)],5⟩) _ ?_
 rintro⟨i,r⟩ hi ih s hs
 simp only at hi
 refine qB qJi rfl rfl hs ?_
 obtain⟨hi1,hi2⟩:=hi
 refine wa_ (wa_ (zB (w_ (m_ (h:=w_ (m_ (h:=w_ (b_ (h:=zC (e_ (h:=zA (?_))))))))))))
 refine c_ (h1:=?_) (h2:=?_)
 rotate_right 1
 focus
  intro c1
  first
  | exact dn c1
  | (
   have d1:=c1;try simp at d1
   refine zX (?_)
   )
 rotate_right 1
 focus
  intro c1
  first
  | exact dn c1
  | (
   have d1:=c1;try simp at d1
   have hw:=zV (i:=i) (by omega);have g1:(cts r)[a0+i]? = some (nth r (a0+i)).v:=jO (by omega);have g2:(cts r)[b0+i]? = some (nth r (b0+i)).v:=jO (by omega);have g3:(cts (r.set (a0+i) (nth r (b0+i))))[b0+i]? = some (nth (r.set (a0+i) (nth r (b0+i))) (b0+i)).v:=jO (by simp;omega)
   refine zD (?_)
   )
 all_goals first
 | refine zS ?_
 | (
  refine zA ?_
  refine wa_ (zG (qE (y_ (m_ (h:=ax_ (h:=y_ (m_ (h:=ax_ (h:=y_ (m_ (h:=ax_ (h:=y_ (?_)))))))))))))
  refine b_ (hv:=kG (c:=a0+i) (by omega) (by omega)) (h:=?_)
  refine ax_ (h:=y_ (m_ (h:=ax_ (h:=y_ (m_ (h:=ax_ (h:=y_ (m_ (h:=ax_ (h:=y_ (?_)))))))))))
  refine b_ (hv:=kG (c:=b0+i) (by omega) (by omega)) (h:=?_)
  refine ax_ (h:=y_ (m_ (h:=ax_ (h:=y_ (m_ (h:=ax_ (h:=y_ (m_ (h:=ax_ (h:=y_ (?_)))))))))))
  refine b_ (hv:=kG (c:=b0+i) (by omega) (by omega)) (h:=?_)
  refine ax_ (h:=y_ (x_ (h:=ax_ (h:=y_ (l_ (h:=ax_ (h:=y_ (m_ (h:=ax_ (h:=y_ (m_ (h:=ax_ (h:=y_ (m_ (h:=ax_ (h:=y_ (?_)))))))))))))))))
  refine b_ (hv:=kG (c:=a0+i) (by omega) (by omega)) (h:=?_)
  refine ax_ (h:=y_ (x_ (h:=ax_ (h:=y_ (l_ (h:=ax_ (h:=y_ (x_ (h:=ax_ (h:=y0 (s_ (h:=ax_ (h:=y_ (x_ (h:=ax_ (h:=y0 (s_ (h:=ax_ (h:=zC (ed (h:=zJ (zA (zB (w_ (m_ (h:=?_))))))))))))))))))))))))))
  refine w_ (b_ (h:=w_ (a_ (h:=zC (e_ (h:=?_))))))
  )
 all_goals first
 | (refine(ih ((i+1,swp r (a0+i) (b0+i))) (⟨by simp only;omega,by simp;omega⟩) ?_ _ ?_).trans ?_;(focus (first|omega|(simp;done)|(simp;omega)));(focus (simp[zI,hw,zEm,swp,zMc];done));(focus (rw[show n - i=(n - (i+1))+1 by omega];rfl)))
 | (apply zM (ex:=(Ext.exit 0)) 5 (some []);(focus (simp[zI];rfl));(focus (rw[show n - i=0 by omega];rfl)))
theorem qDg (a b n:Nat) (l:List Ct) (hN:l.length<2000000) (h1:a+n≤b) (h2:b+n≤l.length):oc.call 284 [.iol 3 (cts l),.int .i64 a,.int .i64 b,.int .i64 n,.clo 181 []]=some (.tup [],[.lst true 3 (cts (swR n a b l))]):=by
 refine qD rfl qJi rfl rfl rfl (by simp;rfl) (by simp;rfl) ?_
 refine wa_ (zB (w_ (a_ (h:=zC (e_ (h:=zA (zG (?_))))))))
 refine qF (l_swR n a b l.length hN h1 h2 (0,l) ⟨by simp,rfl⟩ _ (by simp[zI])) ?_
 refine zT (?_)
 all_goals (refine qZ (hr:=zO) (h:=?_);(focus (simp)))
theorem kE:∀{l m:List Ct},l.length=m.length→V.alikeL (cts l) (cts m)=true
 | [],[],_=>rfl
 | [],_::_,h=>by cases h
 | _::_,[],h=>by cases h
 | x::l,y::m,h=>by
  have ih:=kE (l:=l) (m:=m) (by simpa using h)
  simp only[cts,List.map_cons,V.alikeL] at ih ⊢
  rw[ih];rfl
theorem rot_0 {α:Type} [Inhabited α] {m i j:Nat} {l:List α} (hi:0<i) (h:i=j):rot m i j l=swR i (m - i) m l:=by
 unfold rot;rw[if_neg (by omega),if_pos h]
theorem rot_1 {α:Type} [Inhabited α] {m i j:Nat} {l:List α} (hj:0<j) (h:j<i):rot m i j l=rot m (i - j) j (swR j (m - i) m l):=by
 conv=>lhs;unfold rot
 rw[if_neg (by omega),if_neg (by omega),if_pos h]
theorem rot_2 {α:Type} [Inhabited α] {m i j:Nat} {l:List α} (hi:0<i) (h:i<j):rot m i j l=rot m i (j - i) (swR i (m - i) (m+j - i) l):=by
 conv=>lhs;unfold rot
 rw[if_neg (by omega),if_neg (by omega),if_neg (by omega)]
def zEc (m i j:Nat) (l:List Ct):Nat×List Ct :=
 if i=0∨j=0∨i=j then(i,l) else if j<i then zEc m (i - j) j (swR j (m - i) m l) else zEc m i (j - i) (swR i (m - i) (m+j - i) l)
termination_by i + j
decreasing_by all_goals omega
theorem zZr {m i j:Nat} {l:List Ct} (h:i=j):zEc m i j l=(i,l):=by
 unfold zEc;rw[if_pos (by omega)]
theorem zYv {m i j:Nat} {l:List Ct} (hj:0<j) (h:j<i):zEc m i j l=zEc m (i - j) j (swR j (m - i) m l):=by
 conv=>lhs;unfold zEc
 rw[if_neg (by omega),if_pos h]
theorem zZp {m i j:Nat} {l:List Ct} (hi:0<i) (h:i<j):zEc m i j l=zEc m i (j - i) (swR i (m - i) (m+j - i) l):=by
 conv=>lhs;unfold zEc
 rw[if_neg (by omega),if_neg (by omega)]
theorem qD5 {m:Nat}:∀(i j:Nat) (l:List Ct),0<i→0<j→i≤m→m+j≤l.length→0<(zEc m i j l).1∧(zEc m i j l).1≤i∧(zEc m i j l).1≤j∧(zEc m i j l).2.length=l.length∧swR (zEc m i j l).1 (m - (zEc m i j l).1) m (zEc m i j l).2=rot m i j l:=by
 intro i j
 induction hd:i+j using Nat.strongRecOn generalizing i j with
 | _ d ih =>
  subst hd
  intro l h1 h2 h3 h4
  rcases Nat.lt_trichotomy i j with h|h|h
  ·have hs:=(zCz (n:=i) (a:=m - i) (b:=m+j - i) (l:=l) (by omega) (by omega)).1.length_eq
   rw[zZp h1 h,rot_2 h1 h]
   obtain⟨a,b,c,d,e⟩:=ih (i+(j - i)) (by omega) i (j - i) rfl (swR i (m - i) (m+j - i) l) h1 (by omega) h3 (by omega)
   exact⟨a,b,by omega,d.trans hs,e⟩
  ·rw[zZr h,rot_0 h1 h]
   exact⟨h1,Nat.le_refl _,by simp only;omega,rfl,rfl⟩
  ·have hs:=(zCz (n:=j) (a:=m - i) (b:=m) (l:=l) (by omega) (by omega)).1.length_eq
   rw[zYv h2 h,rot_1 h2 h]
   obtain⟨a,b,c,d,e⟩:=ih (i - j+j) (by omega) (i - j) j rfl (swR j (m - i) m l) (by omega) h2 (by omega) (by omega)
   exact⟨a,by omega,c,d.trans hs,e⟩
theorem l_rot (m N:Nat) (hN:N<2000000):∀x:Nat×Nat×(List Ct),(0<x.1∧0<x.2.1∧x.1≤m∧m+x.2.1≤N∧x.2.2.length=N)→∀s,zI 5 (some [0,2,4,10,11]) s=⟨[(0,.ref 0 0 N),(2,.int .i64 m),(4,.clo 181 []),(10,.int .i64 x.1),(11,.int .i64 x.2.1)],[(0,⟨false,true,3,cts x.2.2,0⟩)],5⟩ →
 oc.loop 279 2 s=some (.exit 0,⟨[(0,.ref 0 0 N),(2,.int .i64 m),(4,.clo 181 []),(10,.int .i64 ((zEc m x.1 x.2.1 x.2.2).1:Nat))],[(0,⟨false,true,3,cts (zEc m x.1 x.2.1 x.2.2).2,0⟩)],5⟩):=by
 refine zW (σ:=Nat×Nat×(List Ct)) (fun x=>x.1+x.2.1) _ (fun x=>⟨[(0,.ref 0 0 N),(2,.int .i64 m),(4,.clo 181 []),(10,.int .i64 x.1),(11,.int .i64 x.2.1)],[(0,⟨false,true,3,cts x.2.2,0⟩)],5⟩) _ ?_
 rintro⟨i,j,r⟩ hi ih s hs
 simp only at hi
 refine qB qI2 rfl rfl hs ?_
 obtain⟨hi1,hi2,hi3,hi4,hi5⟩:=hi
 refine wa_ (wa_ (zB (w_ (m_ (h:=w_ (m_ (h:=w_ (bE (h:=zC (e_ (h:=zA (?_))))))))))))
 refine c_ (h1:=?_) (h2:=?_)
 rotate_right 1
 focus
  intro c1
  first
  | exact dn c1
  | (
   have d1:=c1;try simp at d1
   refine zX (?_)
   )
 rotate_right 1
 focus
  intro c1
  first
  | exact dn c1
  | (
   have d1:=c1;try simp at d1
   refine zD (?_)
   )
 all_goals first
 | refine zS ?_
 | (
  refine zA ?_
  refine zG (wa_ (zB (w_ (m_ (h:=w_ (m_ (h:=w_ (b_ (h:=zC (e_ (h:=zA (?_))))))))))))
  refine c_ (h1:=?_) (h2:=?_)
  rotate_right 1
  focus
   intro c2
   first
   | exact dn c2
   | (
    have d2:=c2;try simp at d2
    have hij:i<j:=(by simp at *;omega);have hsl:=(zCz (n:=i) (a:=m - i) (b:=m+j - i) (l:=r) (by omega) (by omega)).1.length_eq
    refine wa_ (zB (w_ (m_ (h:=w_ (m_ (h:=w_ (m_ (h:=w_ (?_)))))))))
    refine b_ (hv:=jT (c:=m - i) (by simp only;omega) (by omega)) (h:=?_)
    refine w_ (m_ (h:=w_ (m_ (h:=w_ (?_)))))
    refine b_ (hv:=kG (c:=m+j) (by simp only;omega) (by omega)) (h:=?_)
    refine w_ (m_ (h:=w_ (?_)))
    refine b_ (hv:=jT (c:=m+j - i) (by simp only;omega) (by omega)) (h:=?_)
    refine w_ (m_ (h:=w_ (m_ (h:=w_ (?_)))))
    refine cI (hc:=qDg (m - i) (m+j - i) i r (by omega) (by omega) (by omega)) (hal:=kE hsl.symm) (h:=?_)
    refine zC (e_ (h:=zA (zB (w_ (m_ (h:=w_ (m_ (h:=w_ (?_)))))))))
    refine b_ (hv:=jT (c:=j - i) (by simp only;omega) (by omega)) (h:=?_)
    refine w_ (a_ (h:=zC (e_ (h:=?_))))
    )
  rotate_right 1
  focus
   intro c2
   first
   | exact dn c2
   | (
    have d2:=c2;try simp at d2
    have hij:j<i:=(by simp at *;omega);have hsl:=(zCz (n:=j) (a:=m - i) (b:=m) (l:=r) (by omega) (by omega)).1.length_eq
    refine wa_ (zB (w_ (m_ (h:=w_ (m_ (h:=w_ (m_ (h:=w_ (?_)))))))))
    refine b_ (hv:=jT (c:=m - i) (by simp only;omega) (by omega)) (h:=?_)
    refine w_ (m_ (h:=w_ (m_ (h:=w_ (m_ (h:=w_ (?_)))))))
    refine cI (hc:=qDg (m - i) m j r (by omega) (by omega) (by omega)) (hal:=kE hsl.symm) (h:=?_)
    refine zC (e_ (h:=zA (zB (w_ (m_ (h:=w_ (m_ (h:=w_ (?_)))))))))
    refine b_ (hv:=jT (c:=i - j) (by simp only;omega) (by omega)) (h:=?_)
    refine w_ (a_ (h:=zC (e_ (h:=?_))))
    )
  all_goals refine zJ ?_
  )
 all_goals first
 | (refine(ih ((i - j,j,swR j (m - i) m r)) (⟨by simp only;omega,by simp only;omega,by simp only;omega,by simp only;omega,by simp only;omega⟩) ?_ _ ?_).trans ?_;(focus (first|omega|(simp;done)|(simp;omega)));(focus (simp[zI,zMc];done));(focus (rw[zYv (l:=r) hi2 hij])))
 | (refine(ih ((i,j - i,swR i (m - i) (m+j - i) r)) (⟨by simp only;omega,by simp only;omega,by simp only;omega,by simp only;omega,by simp only;omega⟩) ?_ _ ?_).trans ?_;(focus (first|omega|(simp;done)|(simp;omega)));(focus (simp[zI,zMc];done));(focus (rw[zZp (l:=r) hi1 hij])))
 | (apply zM (ex:=(Ext.exit 0)) 5 (some [0,2,4,10]);(focus (simp[zI];rfl));(focus (rw[zZr (by simp at *;omega)])))
theorem e_rot (a m b:Nat) (l:List Ct) (hN:l.length<2000000) (h1:a<m) (h2:m<b) (h3:b≤l.length):oc.call 279 [.iol 3 (cts l),.int .i64 a,.int .i64 m,.int .i64 b,.clo 181 []]=some (.tup [],[.lst true 3 (cts (rot m (m - a) (b - m) l))]):=by
 refine qD rfl qI2 rfl rfl rfl (by simp;rfl) (by simp;rfl) ?_
 obtain⟨q1,q2,q3,q4,q5⟩:=qD5 (m:=m) (m - a) (b - m) l (by omega) (by omega) (by omega) (by omega)
 have hq:=(zCz (n:=(zEc m (m - a) (b - m) l).1) (a:=m - (zEc m (m - a) (b - m) l).1) (b:=m) (l:=(zEc m (m - a) (b - m) l).2) (by omega) (by omega)).1.length_eq
 refine wa_ (zB (w_ (m_ (h:=w_ (m_ (h:=w_ (?_)))))))
 refine b_ (hv:=jT (c:=m - a) (by omega) (by omega)) (h:=?_)
 refine w_ (a_ (h:=zC (e_ (h:=zA (wa_ (zB (w_ (m_ (h:=w_ (m_ (h:=w_ (?_))))))))))))
 refine b_ (hv:=jT (c:=b - m) (by omega) (by omega)) (h:=?_)
 refine w_ (a_ (h:=zC (e_ (h:=zA (wa_ (zG (?_)))))))
 refine qF (l_rot m l.length hN (m - a,b - m,l) ⟨by simp only;omega,by simp only;omega,by simp only;omega,by simp only;omega,rfl⟩ _ (by simp[zI])) ?_
 refine zT (zA (zB (w_ (m_ (h:=w_ (m_ (h:=w_ (m_ (h:=w_ (?_))))))))))
 refine b_ (hv:=jT (c:=m - (zEc m (m - a) (b - m) l).1) (by simp only;omega) (by omega)) (h:=?_)
 refine w_ (m_ (h:=w_ (m_ (h:=w_ (m_ (h:=w_ (?_)))))))
 refine cI (hc:=qDg (m - (zEc m (m - a) (b - m) l).1) m (zEc m (m - a) (b - m) l).1 (zEc m (m - a) (b - m) l).2 (by omega) (by omega) (by omega)) (hal:=kE hq.symm) (h:=?_)
 refine zC (e_ (h:=?_))
 all_goals (refine qZ (hr:=zO) (h:=?_);(focus (simp[q5])))
section
variable {call : Call} {id base : Nat} {e : List (Nat × V)} {o : List (Nat × Ob)} {n : Nat} {t : TypeId} {K : V→List (Nat × Ob)→Prop}
theorem cvN {ts t':TypeId} {x:Operand} {k0 k k1:IntKind} {a:Int} {c:Nat} (h0:cf.ints ts=some k0:=by exact tys_ok.ints _ _ rfl) (h1:cf.ints t'=some k:=by exact tys_ok.ints _ _ rfl) (hx:opV e x=some (.int k1 a):=by exact rfl) (hc:k.wrap a=c) (h:K (.int k c) o):opK call cf id base e o n t (.convert ts t' x) K:=cv h0 h1 hx (by rw[hc];exact h)
end
theorem zIl {c:Nat} (h:c<4611686018427387904):IntKind.u64.wrap (c:Int)=c:=by
 unfold IntKind.wrap;simp[IntKind.bits,IntKind.signed];omega
theorem shr1 {c:Nat}:zE4 .shr (.int .u64 (c:Int)) (.int .u64 1)=some (.int .u64 ((c / 2:Nat):Int)):=by
 simp only[zE4,if_neg (show ¬(1:Int)<0 by omega),IntKind.bits]
 rw[Int.fdiv_eq_ediv_of_nonneg _ (by decide)]
 simp
theorem qCb {p:Nat→Bool} {i j:Nat} (h:i<j) (hp:p ((i+j) / 2)=true):hlf p i j=hlf p ((i+j) / 2+1) j:=by
 conv=>lhs;unfold hlf
 rw[dif_pos h,if_pos hp]
theorem qB5 {p:Nat→Bool} {i j:Nat} (h:i<j) (hp:p ((i+j) / 2)=false):hlf p i j=hlf p i ((i+j) / 2):=by
 conv=>lhs;unfold hlf
 rw[dif_pos h,if_neg (by simp[hp])]
theorem qAe {p:Nat→Bool} {i j:Nat} (h:¬i<j):hlf p i j=i:=by
 unfold hlf;rw[dif_neg h]
theorem l_s3 (a N:Nat) (r:List Ct) (hN:N<2000000) (hr:r.length=N) (ha:a<N):∀x:Nat×Nat,(x.1≤x.2∧x.2≤N)→∀s,zI 5 (some [0,1,4,10,11]) s=⟨[(0,.ref 0 0 N),(1,.int .i64 a),(4,.clo 181 []),(10,.int .i64 x.1),(11,.int .i64 x.2)],[(0,⟨false,true,3,cts r,0⟩)],5⟩ →
 oc.loop 265 3 s=some (.exit 0,⟨[(0,.ref 0 0 N),(1,.int .i64 a),(10,.int .i64 (hlf (fun h=>ltC (nth r h) (nth r a)) x.1 x.2:Nat))],[(0,⟨false,true,3,cts r,0⟩)],5⟩):=by
 refine zW (σ:=Nat×Nat) (fun x=>x.2 - x.1) _ (fun x=>⟨[(0,.ref 0 0 N),(1,.int .i64 a),(4,.clo 181 []),(10,.int .i64 x.1),(11,.int .i64 x.2)],[(0,⟨false,true,3,cts r,0⟩)],5⟩) _ ?_
 rintro⟨i,j⟩ hi ih s hs
 simp only at hi
 refine qB zQj rfl rfl hs ?_
 obtain⟨hi1,hi2⟩:=hi
 refine wa_ (wa_ (zB (w_ (m_ (h:=w_ (m_ (h:=w_ (b_ (h:=zC (e_ (h:=zA (?_))))))))))))
 refine c_ (h1:=?_) (h2:=?_)
 rotate_right 1
 focus
  intro c1
  first
  | exact dn c1
  | (
   have d1:=c1;try simp at d1
   refine zX (?_)
   )
 rotate_right 1
 focus
  intro c1
  first
  | exact dn c1
  | (
   have d1:=c1;try simp at d1
   have g1:(cts r)[(i+j) / 2]? = some (nth r ((i+j) / 2)).v:=jO (by omega);have g2:(cts r)[a]? = some (nth r a).v:=jO (by omega)
   refine zD (?_)
   )
 all_goals first
 | refine zS ?_
 | (
  refine zA ?_
  refine zG (wa_ (zB (w_ (m_ (h:=w_ (m_ (h:=w_ (?_))))))))
  refine b_ (hv:=kG (c:=i+j) (by simp) (by omega)) (h:=?_)
  refine w_ (?_)
  refine cvN (c:=i+j) (hc:=zIl (by omega)) (h:=?_)
  refine w_ (?_)
  refine sh (hv:=shr1) (h:=?_)
  refine w_ (?_)
  refine cvN (c:=(i+j) / 2) (hc:=zD0 (by omega)) (h:=?_)
  refine w_ (a_ (h:=zC (e_ (h:=zA (wa_ (qE (y_ (m_ (h:=ax_ (h:=y_ (m_ (h:=ax_ (h:=y_ (m_ (h:=ax_ (h:=y_ (x_ (h:=ax_ (h:=y_ (l_ (h:=ax_ (h:=y_ (m_ (h:=ax_ (h:=y_ (m_ (h:=ax_ (h:=?_))))))))))))))))))))))))))))
  refine y_ (x_ (h:=ax_ (h:=y_ (l_ (h:=ax_ (h:=y_ (ca (hc:=zQg (nth r ((i+j) / 2)) (nth r a)) (h:=ax_ (h:=y_ (b_ (h:=ax_ (h:=zC (ed (h:=zA (?_)))))))))))))))
  refine c_ (h1:=?_) (h2:=?_)
  rotate_right 1
  focus
   intro c2
   first
   | exact dn c2
   | (
    have d2:=c2;try simp at d2
    refine zB (w_ (m_ (h:=w_ (a_ (h:=zC (e_ (h:=?_)))))))
    )
  rotate_right 1
  focus
   intro c2
   first
   | exact dn c2
   | (
    have d2:=c2;try simp at d2
    refine zB (w_ (m_ (h:=w_ (?_))))
    refine b_ (hv:=kG (c:=(i+j) / 2+1) (by simp) (by omega)) (h:=?_)
    refine w_ (a_ (h:=zC (e_ (h:=?_))))
    )
  all_goals refine zJ ?_
  )
 all_goals first
 | (refine(ih (((i+j) / 2+1,j)) (⟨by simp only;omega,by simp only;omega⟩) ?_ _ ?_).trans ?_;(focus (first|omega|(simp;done)|(simp;omega)));(focus (simp[zI,zMc];done));(focus (rw[qCb (i:=i) (j:=j) (by omega) (by simp[ltC];omega)])))
 | (refine(ih ((i,(i+j) / 2)) (⟨by simp only;omega,by simp only;omega⟩) ?_ _ ?_).trans ?_;(focus (first|omega|(simp;done)|(simp;omega)));(focus (simp[zI,zMc];done));(focus (rw[qB5 (i:=i) (j:=j) (by omega) (by simp[ltC];omega)])))
 | (apply zM (ex:=(Ext.exit 0)) 5 (some [0,1,10]);(focus (simp[zI];rfl));(focus (rw[qAe (i:=i) (j:=j) (by omega)])))
theorem l_s15 (m N:Nat) (r:List Ct) (hN:N<2000000) (hr:r.length=N) (hm:m<N):∀x:Nat×Nat,(x.1≤x.2∧x.2≤N)→∀s,zI 5 (some [0,2,4,14,15]) s=⟨[(0,.ref 0 0 N),(2,.int .i64 m),(4,.clo 181 []),(14,.int .i64 x.1),(15,.int .i64 x.2)],[(0,⟨false,true,3,cts r,0⟩)],5⟩ →
 oc.loop 265 15 s=some (.exit 4,⟨[(0,.ref 0 0 N),(2,.int .i64 m),(14,.int .i64 (hlf (fun h=>!ltC (nth r m) (nth r h)) x.1 x.2:Nat))],[(0,⟨false,true,3,cts r,0⟩)],5⟩):=by
 refine zW (σ:=Nat×Nat) (fun x=>x.2 - x.1) _ (fun x=>⟨[(0,.ref 0 0 N),(2,.int .i64 m),(4,.clo 181 []),(14,.int .i64 x.1),(15,.int .i64 x.2)],[(0,⟨false,true,3,cts r,0⟩)],5⟩) _ ?_
 rintro⟨i,j⟩ hi ih s hs
 simp only at hi
 refine qB zQj rfl rfl hs ?_
 obtain⟨hi1,hi2⟩:=hi
 refine wa_ (wa_ (zB (w_ (m_ (h:=w_ (m_ (h:=w_ (b_ (h:=zC (e_ (h:=zA (?_))))))))))))
 refine c_ (h1:=?_) (h2:=?_)
 rotate_right 1
 focus
  intro c1
  first
  | exact dn c1
  | (
   have d1:=c1;try simp at d1
   refine zX (?_)
   )
 rotate_right 1
 focus
  intro c1
  first
  | exact dn c1
  | (
   have d1:=c1;try simp at d1
   have g1:(cts r)[(i+j) / 2]? = some (nth r ((i+j) / 2)).v:=jO (by omega);have g2:(cts r)[m]? = some (nth r m).v:=jO (by omega)
   refine zD (?_)
   )
 all_goals first
 | refine zS ?_
 | (
  refine zA ?_
  refine zG (wa_ (zB (w_ (m_ (h:=w_ (m_ (h:=w_ (?_))))))))
  refine b_ (hv:=kG (c:=i+j) (by simp) (by omega)) (h:=?_)
  refine w_ (?_)
  refine cvN (c:=i+j) (hc:=zIl (by omega)) (h:=?_)
  refine w_ (?_)
  refine sh (hv:=shr1) (h:=?_)
  refine w_ (?_)
  refine cvN (c:=(i+j) / 2) (hc:=zD0 (by omega)) (h:=?_)
  refine w_ (a_ (h:=zC (e_ (h:=zA (wa_ (qE (y_ (m_ (h:=ax_ (h:=y_ (m_ (h:=ax_ (h:=y_ (m_ (h:=ax_ (h:=y_ (x_ (h:=ax_ (h:=y_ (l_ (h:=ax_ (h:=y_ (m_ (h:=ax_ (h:=y_ (m_ (h:=ax_ (h:=?_))))))))))))))))))))))))))))
  refine y_ (x_ (h:=ax_ (h:=y_ (l_ (h:=ax_ (h:=y_ (ca (hc:=zQg (nth r m) (nth r ((i+j) / 2))) (h:=ax_ (h:=y_ (b_ (h:=ax_ (h:=y_ (u_ (h:=ax_ (h:=zC (ed (h:=zA (?_))))))))))))))))))
  refine c_ (h1:=?_) (h2:=?_)
  rotate_right 1
  focus
   intro c2
   first
   | exact dn c2
   | (
    have d2:=c2;try simp at d2
    refine zB (w_ (m_ (h:=w_ (a_ (h:=zC (e_ (h:=?_)))))))
    )
  rotate_right 1
  focus
   intro c2
   first
   | exact dn c2
   | (
    have d2:=c2;try simp at d2
    refine zB (w_ (m_ (h:=w_ (?_))))
    refine b_ (hv:=kG (c:=(i+j) / 2+1) (by simp) (by omega)) (h:=?_)
    refine w_ (a_ (h:=zC (e_ (h:=?_))))
    )
  all_goals refine zJ ?_
  )
 all_goals first
 | (refine(ih (((i+j) / 2+1,j)) (⟨by simp only;omega,by simp only;omega⟩) ?_ _ ?_).trans ?_;(focus (first|omega|(simp;done)|(simp;omega)));(focus (simp[zI,zMc];done));(focus (rw[qCb (i:=i) (j:=j) (by omega) (by simp[ltC];omega)])))
 | (refine(ih ((i,(i+j) / 2)) (⟨by simp only;omega,by simp only;omega⟩) ?_ _ ?_).trans ?_;(focus (first|omega|(simp;done)|(simp;omega)));(focus (simp[zI,zMc];done));(focus (rw[qB5 (i:=i) (j:=j) (by omega) (by simp[ltC];omega)])))
 | (apply zM (ex:=(Ext.exit 4)) 5 (some [0,2,14]);(focus (simp[zI];rfl));(focus (rw[qAe (i:=i) (j:=j) (by omega)])))
theorem l_s9 (i N:Nat) (hN:N<2000000) (hi1:1≤i) (hiN:i≤N):∀x:Nat×(List Ct),(x.1≤i - 1∧x.2.length=N)→∀s,zI 5 (some [0,10,13]) s=⟨[(0,.ref 0 0 N),(10,.int .i64 i),(13,.int .i64 x.1)],[(0,⟨false,true,3,cts x.2,0⟩)],5⟩ →
 oc.loop 265 9 s=some (.exit 2,⟨[],[(0,⟨false,true,3,cts (mvU (i - 1 - x.1) x.1 x.2),0⟩)],5⟩):=by
 refine zW (σ:=Nat×(List Ct)) (fun x=>i - 1 - x.1) _ (fun x=>⟨[(0,.ref 0 0 N),(10,.int .i64 i),(13,.int .i64 x.1)],[(0,⟨false,true,3,cts x.2,0⟩)],5⟩) _ ?_
 rintro⟨k,r⟩ hi ih s hs
 simp only at hi
 refine qB zQj rfl rfl hs ?_
 obtain⟨hk1,hk2⟩:=hi
 refine wa_ (wa_ (zB (w_ (m_ (h:=w_ (m_ (h:=w_ (?_))))))))
 refine b_ (hv:=jT (c:=i - 1) (by omega) (by omega)) (h:=?_)
 refine w_ (b_ (h:=zC (e_ (h:=zA (?_)))))
 refine c_ (h1:=?_) (h2:=?_)
 rotate_right 1
 focus
  intro c1
  first
  | exact dn c1
  | (
   have d1:=c1;try simp at d1
   have hki:¬k<i - 1:=(by simp at c1;omega)
   refine zX (?_)
   )
 rotate_right 1
 focus
  intro c1
  first
  | exact dn c1
  | (
   have d1:=c1;try simp at d1
   have hki:k<i - 1:=(by simp at c1;omega);have g1:(cts r)[k]? = some (nth r k).v:=jO (by omega);have g2:(cts r)[k+1]? = some (nth r (k+1)).v:=jO (by omega);have g3:(cts (r.set k (nth r (k+1))))[k+1]? = some (nth (r.set k (nth r (k+1))) (k+1)).v:=jO (by simp;omega)
   refine zD (?_)
   )
 all_goals first
 | refine zS ?_
 | (
  refine zA ?_
  refine wa_ (zG (qE (y_ (m_ (h:=ax_ (h:=y_ (m_ (h:=ax_ (h:=y_ (m_ (h:=ax_ (h:=y_ (m_ (h:=ax_ (h:=y_ (?_))))))))))))))))
  refine b_ (hv:=kG (c:=k+1) (by simp) (by omega)) (h:=?_)
  refine ax_ (h:=y_ (m_ (h:=ax_ (h:=y_ (m_ (h:=ax_ (h:=y_ (?_))))))))
  refine b_ (hv:=kG (c:=k+1) (by simp) (by omega)) (h:=?_)
  refine ax_ (h:=y_ (x_ (h:=ax_ (h:=y_ (l_ (h:=ax_ (h:=y_ (m_ (h:=ax_ (h:=y_ (m_ (h:=ax_ (h:=y_ (x_ (h:=ax_ (h:=y_ (l_ (h:=ax_ (h:=y_ (x_ (h:=ax_ (h:=y0 (s_ (h:=ax_ (h:=y_ (x_ (h:=ax_ (h:=y0 (s_ (h:=ax_ (h:=zC (ed (h:=?_)))))))))))))))))))))))))))))))))
  refine zJ (zA (zB (w_ (m_ (h:=w_ (?_))))))
  refine b_ (hv:=kG (c:=k+1) (by simp) (by omega)) (h:=?_)
  refine w_ (a_ (h:=zC (e_ (h:=?_))))
  )
 all_goals first
 | (refine(ih ((k+1,swp r k (k+1))) (⟨by simp only;omega,by simp;omega⟩) ?_ _ ?_).trans ?_;(focus (first|omega|(simp;done)|(simp;omega)));(focus (simp[zI,zEm,swp,zMc];done));(focus (rw[show i - 1 - k=(i - 1 - (k+1))+1 by omega];rfl)))
 | (apply zM (ex:=(Ext.exit 2)) 5 (some []);(focus (simp[zI];rfl));(focus (rw[show i - 1 - k=0 by omega];rfl)))
theorem l_s21 (i N:Nat) (hN:N<2000000):∀x:Nat×(List Ct),(i≤x.1∧x.1<N∧x.2.length=N)→∀s,zI 5 (some [0,14,17]) s=⟨[(0,.ref 0 0 N),(14,.int .i64 i),(17,.int .i64 x.1)],[(0,⟨false,true,3,cts x.2,0⟩)],5⟩ →
 oc.loop 265 21 s=some (.exit 6,⟨[],[(0,⟨false,true,3,cts (mvD (x.1 - i) x.1 x.2),0⟩)],5⟩):=by
 refine zW (σ:=Nat×(List Ct)) (fun x=>x.1 - i) _ (fun x=>⟨[(0,.ref 0 0 N),(14,.int .i64 i),(17,.int .i64 x.1)],[(0,⟨false,true,3,cts x.2,0⟩)],5⟩) _ ?_
 rintro⟨k,r⟩ hi ih s hs
 simp only at hi
 refine qB zQj rfl rfl hs ?_
 obtain⟨hk1,hk2,hk3⟩:=hi
 refine wa_ (wa_ (zB (w_ (m_ (h:=w_ (m_ (h:=w_ (b_ (h:=zC (e_ (h:=zA (?_))))))))))))
 refine c_ (h1:=?_) (h2:=?_)
 rotate_right 1
 focus
  intro c1
  first
  | exact dn c1
  | (
   have d1:=c1;try simp at d1
   have hki:¬i<k:=(by simp at c1;omega)
   refine zX (?_)
   )
 rotate_right 1
 focus
  intro c1
  first
  | exact dn c1
  | (
   have d1:=c1;try simp at d1
   have hki:i<k:=(by simp at c1;omega);have g1:(cts r)[k]? = some (nth r k).v:=jO (by omega);have g2:(cts r)[k - 1]? = some (nth r (k - 1)).v:=jO (by omega);have g3:(cts (r.set k (nth r (k - 1))))[k - 1]? = some (nth (r.set k (nth r (k - 1))) (k - 1)).v:=jO (by simp;omega)
   refine zD (?_)
   )
 all_goals first
 | refine zS ?_
 | (
  refine zA ?_
  refine wa_ (zG (qE (y_ (m_ (h:=ax_ (h:=y_ (m_ (h:=ax_ (h:=y_ (m_ (h:=ax_ (h:=y_ (m_ (h:=ax_ (h:=y_ (?_))))))))))))))))
  refine b_ (hv:=jT (c:=k - 1) (by omega) (by omega)) (h:=?_)
  refine ax_ (h:=y_ (m_ (h:=ax_ (h:=y_ (m_ (h:=ax_ (h:=y_ (?_))))))))
  refine b_ (hv:=jT (c:=k - 1) (by omega) (by omega)) (h:=?_)
  refine ax_ (h:=y_ (x_ (h:=ax_ (h:=y_ (l_ (h:=ax_ (h:=y_ (m_ (h:=ax_ (h:=y_ (m_ (h:=ax_ (h:=y_ (x_ (h:=ax_ (h:=y_ (l_ (h:=ax_ (h:=y_ (x_ (h:=ax_ (h:=y0 (s_ (h:=ax_ (h:=y_ (x_ (h:=ax_ (h:=y0 (s_ (h:=ax_ (h:=zC (ed (h:=?_)))))))))))))))))))))))))))))))))
  refine zJ (zA (zB (w_ (m_ (h:=w_ (?_))))))
  refine b_ (hv:=jT (c:=k - 1) (by omega) (by omega)) (h:=?_)
  refine w_ (a_ (h:=zC (e_ (h:=?_))))
  )
 all_goals first
 | (refine(ih ((k - 1,swp r k (k - 1))) (⟨by simp only;omega,by simp only;omega,by simp;omega⟩) ?_ _ ?_).trans ?_;(focus (first|omega|(simp;done)|(simp;omega)));(focus (simp[zI,zEm,swp,zMc];done));(focus (rw[show k - i=(k - 1 - i)+1 by omega];rfl)))
 | (apply zM (ex:=(Ext.exit 6)) 5 (some []);(focus (simp[zI];rfl));(focus (rw[show k - i=0 by omega];rfl)))
theorem qFf (a m b mid lo hi0 N:Nat) (r:List Ct) (hN:N<2000000) (hr:r.length=N) (h1:hi0≤N) (h2:hi0≤mid+m) (h3:mid+m≤N+lo) (h4:m≤N) (h5:mid≤N):∀x:Nat×Nat,(lo≤x.1∧x.1≤x.2∧x.2≤hi0)→∀s,zI 5 (some [0,1,2,3,4,18,19,20,21,22]) s=⟨[(0,.ref 0 0 N),(1,.int .i64 a),(2,.int .i64 m),(3,.int .i64 b),(4,.clo 181 []),(18,.int .i64 mid),(19,.int .i64 (mid+m:Nat)),(20,.int .i64 x.1),(21,.int .i64 x.2),(22,.int .i64 (mid+m - 1:Nat))],[(0,⟨false,true,3,cts r,0⟩)],5⟩ →
 oc.loop 265 33 s=some (.exit 8,⟨[(0,.ref 0 0 N),(1,.int .i64 a),(2,.int .i64 m),(3,.int .i64 b),(4,.clo 181 []),(18,.int .i64 mid),(19,.int .i64 (mid+m:Nat)),(20,.int .i64 (hlf (fun c=>!ltC (nth r (mid+m - 1 - c)) (nth r c)) x.1 x.2:Nat))],[(0,⟨false,true,3,cts r,0⟩)],5⟩):=by
 refine zW (σ:=Nat×Nat) (fun x=>x.2 - x.1) _ (fun x=>⟨[(0,.ref 0 0 N),(1,.int .i64 a),(2,.int .i64 m),(3,.int .i64 b),(4,.clo 181 []),(18,.int .i64 mid),(19,.int .i64 (mid+m:Nat)),(20,.int .i64 x.1),(21,.int .i64 x.2),(22,.int .i64 (mid+m - 1:Nat))],[(0,⟨false,true,3,cts r,0⟩)],5⟩) _ ?_
 rintro⟨i,j⟩ hi ih s hs
 simp only at hi
 refine qB zQj rfl rfl hs ?_
 obtain⟨hi1,hi2,hi3⟩:=hi
 refine wa_ (wa_ (zB (w_ (m_ (h:=w_ (m_ (h:=w_ (b_ (h:=zC (e_ (h:=zA (?_))))))))))))
 refine c_ (h1:=?_) (h2:=?_)
 rotate_right 1
 focus
  intro c1
  first
  | exact dn c1
  | (
   have d1:=c1;try simp at d1
   refine zX (?_)
   )
 rotate_right 1
 focus
  intro c1
  first
  | exact dn c1
  | (
   have d1:=c1;try simp at d1
   have hc1:mid+m - 1 - (i+j) / 2<r.length:=(by omega);have g1:(cts r)[(i+j) / 2]? = some (nth r ((i+j) / 2)).v:=jO (by omega);have g2:(cts r)[mid+m - 1 - (i+j) / 2]? = some (nth r (mid+m - 1 - (i+j) / 2)).v:=jO hc1
   refine zD (?_)
   )
 all_goals first
 | refine zS ?_
 | (
  refine zA ?_
  refine zG (wa_ (zB (w_ (m_ (h:=w_ (m_ (h:=w_ (?_))))))))
  refine b_ (hv:=kG (c:=i+j) (by simp) (by omega)) (h:=?_)
  refine w_ (?_)
  refine cvN (c:=i+j) (hc:=zIl (by omega)) (h:=?_)
  refine w_ (?_)
  refine sh (hv:=shr1) (h:=?_)
  refine w_ (?_)
  refine cvN (c:=(i+j) / 2) (hc:=zD0 (by omega)) (h:=?_)
  refine w_ (a_ (h:=zC (e_ (h:=zA (wa_ (qE (y_ (m_ (h:=ax_ (h:=y_ (m_ (h:=ax_ (h:=y_ (m_ (h:=ax_ (h:=y_ (m_ (h:=ax_ (h:=y_ (?_))))))))))))))))))))
  refine b_ (hv:=jT (c:=mid+m - 1 - (i+j) / 2) (by omega) (by omega)) (h:=?_)
  refine ax_ (h:=y_ (x_ (h:=ax_ (h:=y_ (l_ (h:=ax_ (h:=y_ (m_ (h:=ax_ (h:=y_ (m_ (h:=ax_ (h:=y_ (x_ (h:=ax_ (h:=y_ (l_ (h:=ax_ (h:=y_ (ca (hc:=zQg (nth r (mid+m - 1 - (i+j) / 2)) (nth r ((i+j) / 2))) (h:=ax_ (h:=y_ (b_ (h:=ax_ (h:=y_ (u_ (h:=ax_ (h:=zC (ed (h:=zA (?_)))))))))))))))))))))))))))))))
  refine c_ (h1:=?_) (h2:=?_)
  rotate_right 1
  focus
   intro c2
   first
   | exact dn c2
   | (
    have d2:=c2;try simp at d2
    refine zB (w_ (m_ (h:=w_ (a_ (h:=zC (e_ (h:=?_)))))))
    )
  rotate_right 1
  focus
   intro c2
   first
   | exact dn c2
   | (
    have d2:=c2;try simp at d2
    refine zB (w_ (m_ (h:=w_ (?_))))
    refine b_ (hv:=kG (c:=(i+j) / 2+1) (by simp) (by omega)) (h:=?_)
    refine w_ (a_ (h:=zC (e_ (h:=?_))))
    )
  all_goals refine zJ ?_
  )
 all_goals first
 | (refine(ih (((i+j) / 2+1,j)) (⟨by simp only;omega,by simp only;omega,by simp only;omega⟩) ?_ _ ?_).trans ?_;(focus (first|omega|(simp;done)|(simp;omega)));(focus (simp[zI,zMc];done));(focus (rw[qCb (i:=i) (j:=j) (by omega) (by simp[ltC];omega)])))
 | (refine(ih ((i,(i+j) / 2)) (⟨by simp only;omega,by simp only;omega,by simp only;omega⟩) ?_ _ ?_).trans ?_;(focus (first|omega|(simp;done)|(simp;omega)));(focus (simp[zI,zMc];done));(focus (rw[qB5 (i:=i) (j:=j) (by omega) (by simp[ltC];omega)])))
 | (apply zM (ex:=(Ext.exit 8)) 5 (some [0,1,2,3,4,18,19,20]);(focus (simp[zI];rfl));(focus (rw[qAe (i:=i) (j:=j) (by omega)];simp)))
theorem zZa {lt:Ct→Ct→Bool} {a m b:Nat} {l:List Ct} (h:(a+b) / 2<m):jM lt a m b l=hlf (fun c=>!lt (nth l ((a+b) / 2+m - 1 - c)) (nth l c)) ((a+b) / 2+m - b) ((a+b) / 2):=by
 unfold jM;rw[if_pos h]
theorem zZo {lt:Ct→Ct→Bool} {a m b:Nat} {l:List Ct} (h:¬(a+b) / 2<m):jM lt a m b l=hlf (fun c=>!lt (nth l ((a+b) / 2+m - 1 - c)) (nth l c)) a m:=by
 unfold jM;rw[if_neg h]
theorem zT0 {lt:Ct→Ct→Bool} {a m b:Nat} {l:List Ct} (h1:a<m) (h2:m<b):jM lt a m b l≤m∧jM lt a m b l≤(a+b) / 2∧a≤jM lt a m b l∧(a+b) / 2+m - jM lt a m b l≤b:=by
 by_cases h:(a+b) / 2<m
 ·rw[zZa h]
  have:=zD4 (p:=fun c=>!lt (nth l ((a+b) / 2+m - 1 - c)) (nth l c)) ((a+b) / 2+m - b) ((a+b) / 2) (by omega)
  omega
 ·rw[zZo h]
  have:=zD4 (p:=fun c=>!lt (nth l ((a+b) / 2+m - 1 - c)) (nth l c)) a m (by omega)
  omega
theorem l_sym (a m b N:Nat) (r:List Ct) (hN:N<2000000) (hr:r.length=N) (h1:a<m) (h2:m<b) (hb:b≤N) (i j:Nat) (h:(a+b) / 2<m∧i=(a+b) / 2+m - b∧j=(a+b) / 2∨¬(a+b) / 2<m∧i=a∧j=m):∀s,zI 5 (some [0,1,2,3,4,18,19,20,21,22]) s=⟨[(0,.ref 0 0 N),(1,.int .i64 a),(2,.int .i64 m),(3,.int .i64 b),(4,.clo 181 []),(18,.int .i64 ((a+b) / 2:Nat)),(19,.int .i64 ((a+b) / 2+m:Nat)),(20,.int .i64 i),(21,.int .i64 j),(22,.int .i64 ((a+b) / 2+m - 1:Nat))],[(0,⟨false,true,3,cts r,0⟩)],5⟩ →
  oc.loop 265 33 s=some (.exit 8,⟨[(0,.ref 0 0 N),(1,.int .i64 a),(2,.int .i64 m),(3,.int .i64 b),(4,.clo 181 []),(18,.int .i64 ((a+b) / 2:Nat)),(19,.int .i64 ((a+b) / 2+m:Nat)),(20,.int .i64 (jM ltC a m b r:Nat))],[(0,⟨false,true,3,cts r,0⟩)],5⟩):=by
 rcases h with⟨h,rfl,rfl⟩|⟨h,rfl,rfl⟩
 ·rw[zZa h]
  exact qFf a m b ((a+b) / 2) ((a+b) / 2+m - b) ((a+b) / 2) N r hN hr (by omega) (by omega) (by omega) (by omega) (by omega) (_,_) ⟨Nat.le_refl _,by simp only;omega,Nat.le_refl _⟩
 ·rw[zZo h]
  exact qFf i j b ((i+b) / 2) i j N r hN hr (by omega) (by omega) (by omega) (by omega) (by omega) (_,_) ⟨Nat.le_refl _,by simp only;omega,Nat.le_refl _⟩
theorem kV {lt:Ct→Ct→Bool}:∀(f a m b:Nat) (l:List Ct),a<m→m<b→b≤l.length→(vV lt f a m b l).length=l.length
 | 0,a,m,b,l,h1,h2,hb=>rfl
 | f+1,a,m,b,l,h1,h2,hb=>by
  unfold vV
  split
  ·obtain⟨q1,q2,_⟩:=zD4 (p:=fun h=>lt (nth l h) (nth l a)) m b (by omega)
   exact(zSb (by omega)).1.len
  ·split
   ·obtain⟨q1,q2,_⟩:=zD4 (p:=fun h=>!lt (nth l m) (nth l h)) a m (by omega)
    exact(zTk (by omega) (by omega)).1.len
   ·obtain⟨r1,r2,r3,r4⟩:=zT0 (lt:=lt) (l:=l) h1 h2
    simp only
    generalize jM lt a m b l=s at *
    have hl1:=(zP3 (s:=s) (m:=m) (mid:=(a+b) / 2) (l:=l) r2 r1 (by omega)).1.length_eq
    generalize zJ8 s m ((a+b) / 2) l=l1 at *
    have hl2:(if a<s∧s<(a+b) / 2 then vV lt f a s ((a+b) / 2) l1 else l1).length=l.length:=by
     split
     ·rename_i h
      exact(kV f a s ((a+b) / 2) l1 h.1 h.2 (by omega)).trans hl1
     ·exact hl1
    generalize (if a<s∧s<(a+b) / 2 then vV lt f a s ((a+b) / 2) l1 else l1)=l2 at *
    split
    ·rename_i h
     exact(kV f _ _ b l2 h.1 h.2 (by omega)).trans hl2
    ·exact hl2
theorem zZs {lt:Ct→Ct→Bool} {f a m b:Nat} {l:List Ct} (h:m - a=1):vV lt (f+1) a m b l=mvU (hlf (fun h=>lt (nth l h) (nth l a)) m b - 1 - a) a l:=by
 conv=>lhs;unfold vV
 rw[if_pos h]
theorem zZu {lt:Ct→Ct→Bool} {f a m b:Nat} {l:List Ct} (h1:¬m - a=1) (h:b - m=1):vV lt (f+1) a m b l=mvD (m - hlf (fun h=>!lt (nth l m) (nth l h)) a m) m l:=by
 conv=>lhs;unfold vV
 rw[if_neg h1,if_pos h]
theorem zYj:∀(f a m b:Nat) (l:List Ct),b - a≤f→a<m→m<b→b≤l.length→l.length<2000000→oc.call 265 [.iol 3 (cts l),.int .i64 a,.int .i64 m,.int .i64 b,.clo 181 []]=some (.tup [],[.lst true 3 (cts (vV ltC f a m b l))]):=by
  intro f
  induction f with
  | zero=>intro a m b l h0 h1 h2 h3 h4;omega
  | succ f ih =>
    intro a m b l h0 h1 h2 h3 h4
    obtain⟨r1,r2,r3,r4⟩:=zT0 (lt:=ltC) (l:=l) h1 h2
    refine qD rfl zQj rfl rfl rfl (by simp;rfl) (by simp;rfl) ?_
    refine wa_ (wa_ (zB (w_ (m_ (h:=w_ (m_ (h:=w_ (?_))))))))
    refine b_ (hv:=jT (c:=m - a) (by omega) (by omega)) (h:=?_)
    refine w_ (bE (h:=zC (e_ (h:=zA (?_)))))
    refine c_ (h1:=?_) (h2:=?_)
    rotate_right 1
    focus
     intro c1
     first
     | exact dn c1
     | (have d1:=c1;try simp at d1
        have e1:¬m - a=1:=(by simp at c1;omega)
        refine zD (?_)
        )
    rotate_right 1
    focus
     intro c1
     first
     | exact dn c1
     | (have d1:=c1;try simp at d1
        have e1:m - a=1:=(by simp at c1;omega);obtain⟨q1,q2,_⟩:=zD4 (p:=fun h=>ltC (nth l h) (nth l a)) m b (by omega)
        refine wa_ (zB (w_ (m_ (h:=w_ (a_ (h:=zC (e_ (h:=zA (wa_ (zB (w_ (m_ (h:=w_ (a_ (h:=zC (e_ (h:=zA (?_))))))))))))))))))
        refine wa_ (zG (?_))
        refine qF (l_s3 a l.length l h4 rfl (by omega) (m,b) ⟨by simp only;omega,by simp only;omega⟩ _ (by simp[zI])) ?_
        refine zT (zA (wa_ (wa_ (zB (w_ (m_ (h:=w_ (a_ (h:=zC (e_ (h:=zA (zG (?_)))))))))))))
        refine qF (l_s9 (hlf (fun h=>ltC (nth l h) (nth l a)) m b) l.length h4 (by omega) (by omega) (a,l) ⟨by simp only;omega,rfl⟩ _ (by simp[zI])) ?_
        refine zT (zA (zH (?_)))
        )
    all_goals first
    | refine zL ?_
    | (refine zA ?_
       refine wa_ (wa_ (zB (w_ (m_ (h:=w_ (m_ (h:=w_ (?_))))))))
       refine b_ (hv:=jT (c:=b - m) (by omega) (by omega)) (h:=?_)
       refine w_ (bE (h:=zC (e_ (h:=zA (?_)))))
       refine c_ (h1:=?_) (h2:=?_)
       rotate_right 1
       focus
        intro c2
        first
        | exact dn c2
        | (have d2:=c2;try simp at d2
           have e2:¬b - m=1:=(by simp at c2;omega)
           refine zD (?_)
           )
       rotate_right 1
       focus
        intro c2
        first
        | exact dn c2
        | (have d2:=c2;try simp at d2
           have e2:b - m=1:=(by simp at c2;omega);obtain⟨q1,q2,_⟩:=zD4 (p:=fun h=>!ltC (nth l m) (nth l h)) a m (by omega)
           refine wa_ (zB (w_ (m_ (h:=w_ (a_ (h:=zC (e_ (h:=zA (wa_ (zB (w_ (m_ (h:=w_ (a_ (h:=zC (e_ (h:=zA (?_))))))))))))))))))
           refine wa_ (zG (?_))
           refine qF (l_s15 m l.length l h4 rfl (by omega) (a,m) ⟨by simp only;omega,by simp only;omega⟩ _ (by simp[zI])) ?_
           refine zT (zA (wa_ (wa_ (zB (w_ (m_ (h:=w_ (a_ (h:=zC (e_ (h:=zA (zG (?_)))))))))))))
           refine qF (l_s21 (hlf (fun h=>!ltC (nth l m) (nth l h)) a m) l.length h4 (m,l) ⟨by simp only;omega,by simp only;omega,rfl⟩ _ (by simp[zI])) ?_
           refine zT (zA (zH (?_)))
           )
       all_goals first
       | refine zL ?_
       | (refine zA ?_
          refine wa_ (zB (w_ (m_ (h:=w_ (m_ (h:=w_ (?_)))))))
          refine b_ (hv:=kG (c:=a+b) (by simp) (by omega)) (h:=?_)
          refine w_ (?_)
          refine cvN (c:=a+b) (hc:=zIl (by omega)) (h:=?_)
          refine w_ (?_)
          refine sh (hv:=shr1) (h:=?_)
          refine w_ (?_)
          refine cvN (c:=(a+b) / 2) (hc:=zD0 (by omega)) (h:=?_)
          refine w_ (a_ (h:=zC (e_ (h:=zA (wa_ (zB (w_ (m_ (h:=w_ (m_ (h:=w_ (?_))))))))))))
          refine b_ (hv:=kG (c:=(a+b) / 2+m) (by simp) (by omega)) (h:=?_)
          refine w_ (a_ (h:=zC (e_ (h:=zA (wa_ (zB (w_ (a_ (h:=w_ (a_ (h:=zC (e_ (h:=zA (wa_ (wa_ (zB (?_)))))))))))))))))
          refine w_ (m_ (h:=w_ (m_ (h:=w_ (b_ (h:=zC (e_ (h:=zA (?_)))))))))
          refine c_ (h1:=?_) (h2:=?_)
          rotate_right 1
          focus
           intro c3
           first
           | exact dn c3
           | (have d3:=c3;try simp at d3
              have e3:¬(a+b) / 2<m:=(by simp at c3;omega);obtain⟨i0,j0,hi0,hj0,hd⟩:∃i j:Nat,i=a∧j=m∧((a+b) / 2<m∧i=(a+b) / 2+m - b∧j=(a+b) / 2∨¬(a+b) / 2<m∧i=a∧j=m):=⟨_,_,rfl,rfl,.inr ⟨e3,rfl,rfl⟩⟩
              refine wa_ (zB (w_ (m_ (h:=w_ (a_ (h:=zC (e_ (h:=zA (zB (w_ (m_ (h:=w_ (a_ (h:=zC (e_ (h:=?_))))))))))))))))
              )
          rotate_right 1
          focus
           intro c3
           first
           | exact dn c3
           | (have d3:=c3;try simp at d3
              have e3:(a+b) / 2<m:=(by simp at c3;omega);obtain⟨i0,j0,hi0,hj0,hd⟩:∃i j:Nat,i=(a+b) / 2+m - b∧j=(a+b) / 2∧((a+b) / 2<m∧i=(a+b) / 2+m - b∧j=(a+b) / 2∨¬(a+b) / 2<m∧i=a∧j=m):=⟨_,_,rfl,rfl,.inl ⟨e3,rfl,rfl⟩⟩
              refine wa_ (zB (w_ (m_ (h:=w_ (m_ (h:=w_ (?_)))))))
              refine b_ (hv:=jT (c:=(a+b) / 2+m - b) (by omega) (by omega)) (h:=?_)
              refine w_ (a_ (h:=zC (e_ (h:=zA (zB (w_ (m_ (h:=w_ (a_ (h:=zC (e_ (h:=?_))))))))))))
              )
          all_goals first
          | (refine zA ?_
             refine wa_ (zB (w_ (m_ (h:=w_ (?_)))))
             refine b_ (hv:=jT (c:=(a+b) / 2+m - 1) (by omega) (by omega)) (h:=?_)
             refine w_ (a_ (h:=zC (e_ (h:=zA (wa_ (zG (?_)))))))
             refine qF (l_sym a m b l.length l h4 rfl h1 h2 h3 i0 j0 hd _ (by simp[zI,hi0,hj0])) ?_
             refine zT (zA (wa_ (zB (w_ (m_ (h:=w_ (m_ (h:=w_ (?_)))))))))
             refine b_ (hv:=jT (c:=(a+b) / 2+m - jM ltC a m b l) (by omega) (by omega)) (h:=?_)
             refine w_ (a_ (h:=zC (e_ (h:=zA (wa_ (wa_ (zB (w_ (m_ (h:=w_ (m_ (h:=w_ (b_ (h:=w_ (m_ (h:=?_))))))))))))))))
             refine gw_ (h1:=?_) (h2:=?_)
             rotate_right 1
             focus
              intro c4
              first
              | exact dn c4
              | (have d4:=c4;try simp at d4
                 refine go_ (h:=go_ (h:=go_ (h:=?_)))
                 )
             rotate_right 1
             focus
              intro c4
              first
              | exact dn c4
              | (have d4:=c4;try simp at d4
                 refine g_ (h:=w_ (m_ (h:=g_ (h:=w_ (m_ (h:=g_ (h:=w_ (b_ (h:=?_)))))))))
                 )
             all_goals
              refine w_ (pk (h:=zC (e_ (h:=?_))))
             all_goals first
             | (refine zA ?_
                refine c_ (h1:=?_) (h2:=?_)
                rotate_right 1
                focus
                 intro c5
                 first
                 | exact dn c5
                 | (have d5:=c5;try simp at d5
                    have e5:¬(jM ltC a m b l<m∧m<(a+b) / 2+m - jM ltC a m b l):=(by first|omega|(simp at c4;omega)|(simp at c5;omega));have hcut:zJ8 (jM ltC a m b l) m ((a+b) / 2) l=l:=(by unfold zJ8;rw[if_neg e5])
                    refine zD (?_)
                    )
                rotate_right 1
                focus
                 intro c5
                 first
                 | exact dn c5
                 | (have d5:=c5;try simp at d5
                    have e5:jM ltC a m b l<m∧m<(a+b) / 2+m - jM ltC a m b l:=(by simp at c5;omega);have hlr:=(zYg (m:=m) (m - jM ltC a m b l) ((a+b) / 2+m - jM ltC a m b l - m) l (by omega) (by omega)).1.length_eq;have hcut:zJ8 (jM ltC a m b l) m ((a+b) / 2) l=rot m (m - jM ltC a m b l) ((a+b) / 2+m - jM ltC a m b l - m) l:=(by unfold zJ8;rw[if_pos e5])
                    refine zB (w_ (m_ (h:=w_ (m_ (h:=w_ (m_ (h:=w_ (m_ (h:=w_ (m_ (h:=w_ (?_))))))))))))
                    refine cI (hc:=e_rot (jM ltC a m b l) m ((a+b) / 2+m - jM ltC a m b l) l h4 (by omega) (by omega) (by omega)) (hal:=kE hlr.symm) (h:=?_)
                    refine zC (e_ (h:=?_))
                    )
                )
             all_goals first
             | (refine zA ?_
                refine wa_ (wa_ (zB (w_ (m_ (h:=w_ (m_ (h:=w_ (b_ (h:=w_ (m_ (h:=?_)))))))))))
                refine gw_ (h1:=?_) (h2:=?_)
                rotate_right 1
                focus
                 intro c6
                 first
                 | exact dn c6
                 | (have d6:=c6;try simp at d6
                    refine go_ (h:=go_ (h:=go_ (h:=?_)))
                    )
                rotate_right 1
                focus
                 intro c6
                 first
                 | exact dn c6
                 | (have d6:=c6;try simp at d6
                    refine g_ (h:=w_ (m_ (h:=g_ (h:=w_ (m_ (h:=g_ (h:=w_ (b_ (h:=?_)))))))))
                    )
                all_goals
                 refine w_ (pk (h:=zC (e_ (h:=?_))))
                all_goals first
                | (refine zA ?_
                   refine c_ (h1:=?_) (h2:=?_)
                   rotate_right 1
                   focus
                    intro c7
                    first
                    | exact dn c7
                    | (have d7:=c7;try simp at d7
                       have e7:¬(a<jM ltC a m b l∧jM ltC a m b l<(a+b) / 2):=(by first|omega|(simp at c6;omega)|(simp at c7;omega));have h12:(if a<jM ltC a m b l∧jM ltC a m b l<(a+b) / 2 then vV ltC f a (jM ltC a m b l) ((a+b) / 2) (zJ8 (jM ltC a m b l) m ((a+b) / 2) l) else zJ8 (jM ltC a m b l) m ((a+b) / 2) l)=zJ8 (jM ltC a m b l) m ((a+b) / 2) l:=if_neg e7;rw[hcut] at h12
                       refine zD (?_)
                       )
                   rotate_right 1
                   focus
                    intro c7
                    first
                    | exact dn c7
                    | (have d7:=c7;try simp at d7
                       have e7:a<jM ltC a m b l∧jM ltC a m b l<(a+b) / 2:=(by simp at c7;omega);have hls:=kV (lt:=ltC) f a (jM ltC a m b l) ((a+b) / 2) (zJ8 (jM ltC a m b l) m ((a+b) / 2) l) e7.1 e7.2 (by rw[hcut];omega);have h12:(if a<jM ltC a m b l∧jM ltC a m b l<(a+b) / 2 then vV ltC f a (jM ltC a m b l) ((a+b) / 2) (zJ8 (jM ltC a m b l) m ((a+b) / 2) l) else zJ8 (jM ltC a m b l) m ((a+b) / 2) l)=vV ltC f a (jM ltC a m b l) ((a+b) / 2) (zJ8 (jM ltC a m b l) m ((a+b) / 2) l):=if_pos e7;rw[hcut] at hls h12
                       refine zB (w_ (m_ (h:=w_ (m_ (h:=w_ (m_ (h:=w_ (m_ (h:=w_ (m_ (h:=w_ (?_))))))))))))
                       first|refine cI (hc:=ih a (jM ltC a m b l) ((a+b) / 2) (rot m (m - jM ltC a m b l) ((a+b) / 2+m - jM ltC a m b l - m) l) (by omega) (by omega) (by omega) (by omega) (by omega)) (hal:=kE (kV f a (jM ltC a m b l) ((a+b) / 2) (rot m (m - jM ltC a m b l) ((a+b) / 2+m - jM ltC a m b l - m) l) (by omega) (by omega) (by omega)).symm) (h:=?_)|refine cI (hc:=ih a (jM ltC a m b l) ((a+b) / 2) l (by omega) (by omega) (by omega) (by omega) (by omega)) (hal:=kE (kV f a (jM ltC a m b l) ((a+b) / 2) l (by omega) (by omega) (by omega)).symm) (h:=?_)
                       refine zC (e_ (h:=?_))
                       )
                   )
                all_goals first
                | (refine zA ?_
                   refine wa_ (zB (w_ (m_ (h:=w_ (m_ (h:=w_ (b_ (h:=w_ (m_ (h:=?_))))))))))
                   refine gw_ (h1:=?_) (h2:=?_)
                   rotate_right 1
                   focus
                    intro c8
                    first
                    | exact dn c8
                    | (have d8:=c8;try simp at d8
                       refine go_ (h:=go_ (h:=go_ (h:=?_)))
                       )
                   rotate_right 1
                   focus
                    intro c8
                    first
                    | exact dn c8
                    | (have d8:=c8;try simp at d8
                       refine g_ (h:=w_ (m_ (h:=g_ (h:=w_ (m_ (h:=g_ (h:=w_ (b_ (h:=?_)))))))))
                       )
                   all_goals
                    refine w_ (pk (h:=zC (e_ (h:=?_))))
                   all_goals first
                   | (refine zA ?_
                      refine c_ (h1:=?_) (h2:=?_)
                      rotate_right 1
                      focus
                       intro c9
                       first
                       | exact dn c9
                       | (have d9:=c9;try simp at d9
                          have e9:¬((a+b) / 2<(a+b) / 2+m - jM ltC a m b l∧(a+b) / 2+m - jM ltC a m b l<b):=(by first|omega|(simp at c8;omega)|(simp at c9;omega))
                          refine zD (?_)
                          )
                      rotate_right 1
                      focus
                       intro c9
                       first
                       | exact dn c9
                       | (have d9:=c9;try simp at d9
                          have e9:(a+b) / 2<(a+b) / 2+m - jM ltC a m b l∧(a+b) / 2+m - jM ltC a m b l<b:=(by simp at c9;omega)
                          refine zB (w_ (m_ (h:=w_ (m_ (h:=w_ (m_ (h:=w_ (m_ (h:=w_ (m_ (h:=w_ (?_))))))))))))
                          first|refine cI (hc:=ih ((a+b) / 2) ((a+b) / 2+m - jM ltC a m b l) b (vV ltC f a (jM ltC a m b l) ((a+b) / 2) (rot m (m - jM ltC a m b l) ((a+b) / 2+m - jM ltC a m b l - m) l)) (by omega) (by omega) (by omega) (by omega) (by omega)) (hal:=kE (kV f ((a+b) / 2) ((a+b) / 2+m - jM ltC a m b l) b (vV ltC f a (jM ltC a m b l) ((a+b) / 2) (rot m (m - jM ltC a m b l) ((a+b) / 2+m - jM ltC a m b l - m) l)) (by omega) (by omega) (by omega)).symm) (h:=?_)|refine cI (hc:=ih ((a+b) / 2) ((a+b) / 2+m - jM ltC a m b l) b (vV ltC f a (jM ltC a m b l) ((a+b) / 2) l) (by omega) (by omega) (by omega) (by omega) (by omega)) (hal:=kE (kV f ((a+b) / 2) ((a+b) / 2+m - jM ltC a m b l) b (vV ltC f a (jM ltC a m b l) ((a+b) / 2) l) (by omega) (by omega) (by omega)).symm) (h:=?_)|refine cI (hc:=ih ((a+b) / 2) ((a+b) / 2+m - jM ltC a m b l) b (rot m (m - jM ltC a m b l) ((a+b) / 2+m - jM ltC a m b l - m) l) (by omega) (by omega) (by omega) (by omega) (by omega)) (hal:=kE (kV f ((a+b) / 2) ((a+b) / 2+m - jM ltC a m b l) b (rot m (m - jM ltC a m b l) ((a+b) / 2+m - jM ltC a m b l - m) l) (by omega) (by omega) (by omega)).symm) (h:=?_)|refine cI (hc:=ih ((a+b) / 2) ((a+b) / 2+m - jM ltC a m b l) b l (by omega) (by omega) (by omega) (by omega) (by omega)) (hal:=kE (kV f ((a+b) / 2) ((a+b) / 2+m - jM ltC a m b l) b l (by omega) (by omega) (by omega)).symm) (h:=?_)
                          refine zC (e_ (h:=?_))
                          )
                      )
                   )
                )
             )
          )
       )
    all_goals (refine qZ (hr:=zO) (h:=?_);(focus (first|(rw[zZs e1];rfl)|(simp[zZs e1];done)|(rw[zZu e1 e2];rfl)|(simp[zZu e1 e2];done)|(simp only[vV,if_neg e1,if_neg e2,hcut];rw[h12];first|(rw[if_pos e9]<;>first|rfl|(simp;done))|(rw[if_neg e9]<;>first|rfl|(simp;done))))))
end Go.Proofs.YtbcgenkegnmkhaaGreat.Ev
namespace Go.Proofs.YtbcgenkegnmkhaaGreat.Ev
open Go
set_option maxRecDepth 100000
set_option linter.unusedSimpArgs false
set_option linter.unusedVariables false
set_option maxHeartbeats 2000000
theorem zNu {a b:Int}:zHy a b<0↔a<b:=by
 unfold zHy
 by_cases h1:a<b
 ·simp[h1]
 ·by_cases h2:b<a<;>simp[h1,h2]
theorem cmpI_nil {a b:Int}:zHy a b=0↔a=b:=by
 unfold zHy
 by_cases h1:a<b
 ·simp[h1];omega
 ·by_cases h2:b<a
  ·simp[h1,h2];omega
  ·simp[h1,h2];omega
theorem qX {x y:Ct}:ltC x y=true↔x.pl<y.pl∨x.pl=y.pl∧x.ep<y.ep:=by
 simp only[ltC,byC,decide_eq_true_eq]
 split
 ·rename_i h;rw[cmpI_nil] at h;simp only[decide_eq_true_eq,zNu];omega
 ·rename_i h;rw[cmpI_nil] at h;simp only[decide_eq_true_eq,zNu];omega
theorem zMu:Ordr ltC:=by
 refine⟨fun {x y} h=>?_,fun {x y z} h1 h2=>?_⟩
 ·rw[qX] at h
  cases hc:ltC y x
  ·rfl
  ·rw[qX] at hc;omega
 ·cases hc:ltC z x
  ·rfl
  ·rw[qX] at hc
   have n1:¬ltC y x=true:=by simp[h1]
   have n2:¬ltC z y=true:=by simp[h2]
   rw[qX] at n1 n2
   omega
theorem qGp {g:Nat→List Ct→List Ct} {w n f a:Nat} {l:List Ct} (h:a+w≤n) (hf:n≤f+a) (hw:1≤w):blk g w n f a l=blk g w n (f - 1) (a+w) (g a l):=by
 obtain⟨k,rfl⟩:∃k,f=k+1:=⟨f - 1,by omega⟩
 conv=>lhs;unfold blk
 rw[if_pos h];rfl
theorem qHz {g:Nat→List Ct→List Ct} {w n f a:Nat} {l:List Ct} (h:¬a+w≤n):blk g w n f a l=(a,l):=by
 cases f with
 | zero=>rfl
 | succ k=>unfold blk;rw[if_neg h]
theorem zMa {g:Nat→List Ct→List Ct} {w n:Nat} (hw:1≤w) (hg:∀a l,a+w≤n→l.length=n→(g a l).length=n):∀(f a:Nat) (l:List Ct),n≤f+a→a≤n→l.length=n→(blk g w n f a l).1≤n∧n<(blk g w n f a l).1+w∧(blk g w n f a l).2.length=n
 | 0,a,l,h1,h2,h3=>⟨h2,by show n<a+w;omega,h3⟩
 | f+1,a,l,h1,h2,h3=>by
  unfold blk
  split
  ·rename_i h
   exact zMa hw hg f (a+w) _ (by omega) h (hg a l h h3)
  ·rename_i h
   exact⟨h2,by show n<a+w;omega,h3⟩
abbrev gI:Nat→List Ct→List Ct:=fun a l=>ins ltC a (a+20) l
abbrev gM (w:Nat):Nat→List Ct→List Ct:=fun a l=>vV ltC (2 * w) a (a+w) (a+2 * w) l
theorem l_st2 (N:Nat) (hN:N<2000000):∀x:Nat×Nat×(List Ct),(N≤x.1+x.2.1∧x.2.1≤N∧x.2.2.length=N)→∀s,zI 3 (some [0,1,2,6,7,8]) s=⟨[(0,.ref 0 0 N),(1,.int .i64 N),(2,.clo 181 []),(6,.int .i64 20),(7,.int .i64 x.2.1),(8,.int .i64 (x.2.1+20:Nat))],[(0,⟨false,true,3,cts x.2.2,0⟩)],3⟩ →
 oc.loop 232 2 s=some (.exit 0,⟨[(0,.ref 0 0 N),(1,.int .i64 N),(2,.clo 181 []),(6,.int .i64 20),(7,.int .i64 ((blk gI 20 N x.1 x.2.1 x.2.2).1:Nat))],[(0,⟨false,true,3,cts (blk gI 20 N x.1 x.2.1 x.2.2).2,0⟩)],3⟩):=by
 refine zW (σ:=Nat×Nat×(List Ct)) (fun x=>x.1) _ (fun x=>⟨[(0,.ref 0 0 N),(1,.int .i64 N),(2,.clo 181 []),(6,.int .i64 20),(7,.int .i64 x.2.1),(8,.int .i64 (x.2.1+20:Nat))],[(0,⟨false,true,3,cts x.2.2,0⟩)],3⟩) _ ?_
 rintro⟨f,a,r⟩ hi ih s hs
 simp only at hi
 refine qB zX1 rfl rfl hs ?_
 obtain⟨hi1,hi2,hi3⟩:=hi
 refine wa_ (wa_ (zB (w_ (m_ (h:=w_ (m_ (h:=w_ (b_ (h:=zC (e_ (h:=zA (?_))))))))))))
 refine c_ (h1:=?_) (h2:=?_)
 rotate_right 1
 focus
  intro c1
  first
  | exact dn c1
  | (
   have d1:=c1;try simp at d1
   have hab:¬a+20≤N:=(by simp at c1;omega)
   refine zX (?_)
   )
 rotate_right 1
 focus
  intro c1
  first
  | exact dn c1
  | (
   have d1:=c1;try simp at d1
   have hab:a+20≤N:=(by simp at c1;omega);have hil:=(zLg zMu (a:=a) (b:=a+20) (l:=r) (by omega)).1.len
   refine zD (?_)
   )
 all_goals first
 | refine zS ?_
 | (
  refine zA ?_
  refine zG (wa_ (zB (w_ (m_ (h:=w_ (m_ (h:=w_ (m_ (h:=w_ (m_ (h:=w_ (?_))))))))))))
  refine cI (hc:=zZ3 a (a+20) r (by omega) (by omega) (by omega)) (hal:=kE hil.symm) (h:=?_)
  refine zC (e_ (h:=zA (wa_ (zB (w_ (m_ (h:=w_ (a_ (h:=zC (e_ (h:=zA (zB (w_ (m_ (h:=w_ (m_ (h:=w_ (?_))))))))))))))))))
  refine b_ (hv:=kG (c:=a+20+20) (by simp) (by omega)) (h:=?_)
  refine w_ (a_ (h:=zC (e_ (h:=zJ (?_)))))
  )
 all_goals first
 | (refine(ih ((f - 1,a+20,ins ltC a (a+20) r)) (⟨by simp only;omega,by simp only;omega,by simp only;omega⟩) ?_ _ ?_).trans ?_;(focus (first|omega|(simp;done)|(simp;omega)));(focus (simp[zI,zMc];done));(focus (rw[qGp (f:=f) (a:=a) (l:=r) hab hi1 (by omega)])))
 | (apply zM (ex:=(Ext.exit 0)) 3 (some [0,1,2,6,7]);(focus (simp[zI];rfl));(focus (rw[qHz hab])))
theorem l_st9 (w N:Nat) (hN:N<2000000) (hw:1≤w) (hw2:w<4000100):∀x:Nat×Nat×(List Ct),(N≤x.1+x.2.1∧x.2.1≤N∧x.2.2.length=N)→∀s,zI 3 (some [0,1,2,6,7,8]) s=⟨[(0,.ref 0 0 N),(1,.int .i64 N),(2,.clo 181 []),(6,.int .i64 w),(7,.int .i64 x.2.1),(8,.int .i64 (x.2.1+2 * w:Nat))],[(0,⟨false,true,3,cts x.2.2,0⟩)],3⟩ →
 oc.loop 232 9 s=some (.exit 4,⟨[(0,.ref 0 0 N),(1,.int .i64 N),(2,.clo 181 []),(6,.int .i64 w),(7,.int .i64 ((blk (gM w) (2 * w) N x.1 x.2.1 x.2.2).1:Nat))],[(0,⟨false,true,3,cts (blk (gM w) (2 * w) N x.1 x.2.1 x.2.2).2,0⟩)],3⟩):=by
 refine zW (σ:=Nat×Nat×(List Ct)) (fun x=>x.1) _ (fun x=>⟨[(0,.ref 0 0 N),(1,.int .i64 N),(2,.clo 181 []),(6,.int .i64 w),(7,.int .i64 x.2.1),(8,.int .i64 (x.2.1+2 * w:Nat))],[(0,⟨false,true,3,cts x.2.2,0⟩)],3⟩) _ ?_
 rintro⟨f,a,r⟩ hi ih s hs
 simp only at hi
 refine qB zX1 rfl rfl hs ?_
 obtain⟨hi1,hi2,hi3⟩:=hi
 refine wa_ (wa_ (zB (w_ (m_ (h:=w_ (m_ (h:=w_ (b_ (h:=zC (e_ (h:=zA (?_))))))))))))
 refine c_ (h1:=?_) (h2:=?_)
 rotate_right 1
 focus
  intro c1
  first
  | exact dn c1
  | (
   have d1:=c1;try simp at d1
   have hab:¬a+2 * w≤N:=(by simp at c1;omega)
   refine zX (?_)
   )
 rotate_right 1
 focus
  intro c1
  first
  | exact dn c1
  | (
   have d1:=c1;try simp at d1
   have hab:a+2 * w≤N:=(by simp at c1;omega);have hil:=kV (lt:=ltC) (2 * w) a (a+w) (a+2 * w) r (by omega) (by omega) (by omega)
   refine zD (?_)
   )
 all_goals first
 | refine zS ?_
 | (
  refine zA ?_
  refine zG (wa_ (zB (w_ (m_ (h:=w_ (m_ (h:=w_ (m_ (h:=w_ (m_ (h:=w_ (?_))))))))))))
  refine b_ (hv:=kG (c:=a+w) (by simp) (by omega)) (h:=?_)
  refine w_ (m_ (h:=w_ (m_ (h:=w_ (?_)))))
  refine cI (hc:=zYj (2 * w) a (a+w) (a+2 * w) r (by omega) (by omega) (by omega) (by omega) (by omega)) (hal:=kE hil.symm) (h:=?_)
  refine zC (e_ (h:=zA (wa_ (zB (w_ (m_ (h:=w_ (a_ (h:=zC (e_ (h:=zA (zB (w_ (m_ (h:=w_ (m_ (h:=w_ (?_))))))))))))))))))
  refine b_ (hv:=zL3 (c:=2 * w) (by simp) (by omega)) (h:=?_)
  refine w_ (?_)
  refine b_ (hv:=kG (c:=a+2 * w+2 * w) (by simp) (by omega)) (h:=?_)
  refine w_ (a_ (h:=zC (e_ (h:=zJ (?_)))))
  )
 all_goals first
 | (refine(ih ((f - 1,a+2 * w,vV ltC (2 * w) a (a+w) (a+2 * w) r)) (⟨by simp only;omega,by simp only;omega,by simp only;omega⟩) ?_ _ ?_).trans ?_;(focus (first|omega|(simp;done)|(simp;omega)));(focus (simp[zI,zMc];done));(focus (rw[qGp (f:=f) (a:=a) (l:=r) hab hi1 (by omega)])))
 | (apply zM (ex:=(Ext.exit 4)) 3 (some [0,1,2,6,7]);(focus (simp[zI];rfl));(focus (rw[qHz hab])))
theorem zZ1 {n f w:Nat} {l:List Ct} (h:w<n) (hf:n≤f+w):zTe ltC n f w l=zTe ltC n (f - 1) (2 * w) (mrg ltC w n l):=by
 obtain⟨k,rfl⟩:∃k,f=k+1:=⟨f - 1,by omega⟩
 conv=>lhs;unfold zTe
 rw[if_pos h];rfl
theorem qL3 {n f w:Nat} {l:List Ct} (h:¬w<n):zTe ltC n f w l=l:=by
 cases f with
 | zero=>rfl
 | succ k=>unfold zTe;rw[if_neg h]
theorem qJn {w n:Nat} {l:List Ct} (h:(blk (gM w) (2 * w) n n 0 l).1+w<n):mrg ltC w n l=vV ltC (2 * w) (blk (gM w) (2 * w) n n 0 l).1 ((blk (gM w) (2 * w) n n 0 l).1+w) n (blk (gM w) (2 * w) n n 0 l).2:=by
 unfold mrg;rw[if_pos h]
theorem qI5 {w n:Nat} {l:List Ct} (h:¬(blk (gM w) (2 * w) n n 0 l).1+w<n):mrg ltC w n l=(blk (gM w) (2 * w) n n 0 l).2:=by
 unfold mrg;rw[if_neg h]
theorem l_st7 (N:Nat) (hN:N<2000000):∀x:Nat×Nat×(List Ct),(N≤x.1+x.2.1∧1≤x.2.1∧x.2.1<4000100∧x.2.2.length=N)→∀s,zI 3 (some [0,1,2,6]) s=⟨[(0,.ref 0 0 N),(1,.int .i64 N),(2,.clo 181 []),(6,.int .i64 x.2.1)],[(0,⟨false,true,3,cts x.2.2,0⟩)],3⟩ →
 oc.loop 232 7 s=some (.exit 2,⟨[],[(0,⟨false,true,3,cts (zTe ltC N x.1 x.2.1 x.2.2),0⟩)],3⟩):=by
 refine zW (σ:=Nat×Nat×(List Ct)) (fun x=>x.1) _ (fun x=>⟨[(0,.ref 0 0 N),(1,.int .i64 N),(2,.clo 181 []),(6,.int .i64 x.2.1)],[(0,⟨false,true,3,cts x.2.2,0⟩)],3⟩) _ ?_
 rintro⟨f,w,r⟩ hi ih s hs
 simp only at hi
 refine qB zX1 rfl rfl hs ?_
 obtain⟨hi1,hi2,hi2',hi3⟩:=hi
 refine wa_ (wa_ (zB (w_ (m_ (h:=w_ (m_ (h:=w_ (b_ (h:=zC (e_ (h:=zA (?_))))))))))))
 refine c_ (h1:=?_) (h2:=?_)
 rotate_right 1
 focus
  intro c1
  first
  | exact dn c1
  | (
   have d1:=c1;try simp at d1
   have hab:¬w<N:=(by simp at c1;omega)
   refine zX (?_)
   )
 rotate_right 1
 focus
  intro c1
  first
  | exact dn c1
  | (
   have d1:=c1;try simp at d1
   have hab:w<N:=(by simp at c1;omega);obtain⟨b1,b2,b3⟩:=zMa (g:=gM w) (w:=2 * w) (n:=N) (by omega) (fun a l ha hl=>(kV (lt:=ltC) (2 * w) a (a+w) (a+2 * w) l (by omega) (by omega) (by omega)).trans hl) N 0 r (by omega) (by omega) hi3
   refine zD (?_)
   )
 all_goals first
 | refine zS ?_
 | (
  refine zA ?_
  refine zG (wa_ (zB (w_ (m_ (h:=w_ (?_))))))
  refine b_ (hv:=zL3 (c:=2 * w) (by simp) (by omega)) (h:=?_)
  refine w_ (a_ (h:=w_ (a_ (h:=zC (e_ (h:=zA (wa_ (zG (?_)))))))))
  refine qF (l_st9 w N hN hi2 hi2' (N,0,r) ⟨by simp,by simp,hi3⟩ _ (by simp[zI])) ?_
  refine zT (zA (wa_ (wa_ (zB (w_ (m_ (h:=w_ (m_ (h:=w_ (?_))))))))))
  refine b_ (hv:=kG (c:=(blk (gM w) (2 * w) N N 0 r).1+w) (by simp) (by omega)) (h:=?_)
  refine w_ (a_ (h:=zC (e_ (h:=zA (wa_ (zB (w_ (m_ (h:=w_ (m_ (h:=w_ (b_ (h:=zC (e_ (h:=zA (?_))))))))))))))))
  refine c_ (h1:=?_) (h2:=?_)
  rotate_right 1
  focus
   intro c2
   first
   | exact dn c2
   | (
    have d2:=c2;try simp at d2
    have hcw:¬(blk (gM w) (2 * w) N N 0 r).1+w<N:=(by simp at c2;omega);have hml:(mrg ltC w N r).length=N:=(by rw[qI5 hcw];omega)
    refine zD (?_)
    )
  rotate_right 1
  focus
   intro c2
   first
   | exact dn c2
   | (
    have d2:=c2;try simp at d2
    have hcw:(blk (gM w) (2 * w) N N 0 r).1+w<N:=(by simp at c2;omega);have hil:=kV (lt:=ltC) (2 * w) (blk (gM w) (2 * w) N N 0 r).1 ((blk (gM w) (2 * w) N N 0 r).1+w) N (blk (gM w) (2 * w) N N 0 r).2 (by omega) (by omega) (by omega);have hml:(mrg ltC w N r).length=N:=(by rw[qJn hcw];omega)
    refine zB (w_ (m_ (h:=w_ (m_ (h:=w_ (m_ (h:=w_ (m_ (h:=w_ (m_ (h:=w_ (?_))))))))))))
    refine cI (hc:=zYj (2 * w) (blk (gM w) (2 * w) N N 0 r).1 ((blk (gM w) (2 * w) N N 0 r).1+w) N (blk (gM w) (2 * w) N N 0 r).2 (by omega) (by omega) (by omega) (by omega) (by omega)) (hal:=kE hil.symm) (h:=?_)
    refine zC (e_ (h:=?_))
    )
  all_goals first
  | (
   refine zA ?_
   refine zB (w_ (m_ (h:=w_ (?_))))
   refine b_ (hv:=zL3 (c:=2 * w) (by push_cast;omega) (by omega)) (h:=?_)
   refine w_ (a_ (h:=zC (e_ (h:=?_))))
   )
  all_goals refine zJ ?_
  )
 all_goals first
 | (refine(ih ((f - 1,2 * w,mrg ltC w N r)) (⟨by simp only;omega,by simp only;omega,by simp only;omega,by simp only;omega⟩) ?_ _ ?_).trans ?_;(focus (first|omega|(simp;done)|(simp;omega)));(focus (simp[zI,zMc,qJn hcw];done));(focus (rw[zZ1 (f:=f) (w:=w) (l:=r) hab hi1])))
 | (refine(ih ((f - 1,2 * w,mrg ltC w N r)) (⟨by simp only;omega,by simp only;omega,by simp only;omega,by simp only;omega⟩) ?_ _ ?_).trans ?_;(focus (first|omega|(simp;done)|(simp;omega)));(focus (simp[zI,zMc,qI5 hcw];done));(focus (rw[zZ1 (f:=f) (w:=w) (l:=r) hab hi1])))
 | (apply zM (ex:=(Ext.exit 2)) 3 (some []);(focus (simp[zI];rfl));(focus (rw[qL3 hab])))
theorem qKr (l:List Ct) (hN:l.length<2000000):oc.call 232 [.iol 3 (cts l),.int .i64 l.length,.clo 181 []]=some (.tup [],[.lst true 3 (cts (stb ltC l))]):=by
 refine qD rfl zX1 rfl rfl rfl (by simp;rfl) (by simp;rfl) ?_
 obtain⟨b1,b2,b3⟩:=zMa (g:=gI) (w:=20) (n:=l.length) (by omega) (fun a r ha hl=>(zLg zMu (a:=a) (b:=a+20) (l:=r) (by omega)).1.len.trans hl) l.length 0 l (by omega) (by omega) rfl
 have hil:=(zLg zMu (a:=(blk gI 20 l.length l.length 0 l).1) (b:=l.length) (l:=(blk gI 20 l.length l.length 0 l).2) (by omega)).1.len
 refine wa_ (zB (w_ (a_ (h:=zC (e_ (h:=zA (wa_ (zB (w_ (m_ (h:=w_ (a_ (h:=w_ (a_ (h:=zC (e_ (h:=zA (?_))))))))))))))))))
 refine wa_ (zG (?_))
 refine qF (l_st2 l.length hN (l.length,0,l) ⟨by simp,by simp,rfl⟩ _ (by simp[zI])) ?_
 refine zT (zA (wa_ (zB (w_ (m_ (h:=w_ (m_ (h:=w_ (m_ (h:=w_ (m_ (h:=w_ (?_)))))))))))))
 refine cI (hc:=zZ3 (blk gI 20 l.length l.length 0 l).1 l.length (blk gI 20 l.length l.length 0 l).2 (by omega) (by omega) (by omega)) (hal:=kE hil.symm) (h:=?_)
 refine zC (e_ (h:=zA (zG (?_))))
 refine qF (l_st7 l.length hN (l.length,20,qEw ltC l.length l) ⟨by simp only;omega,by simp,by simp,hil.trans b3⟩ _ (by simp[zI,qEw])) ?_
 refine zT (?_)
 all_goals (refine qZ (hr:=zO) (h:=?_);(focus (simp[stb])))
theorem qJk (l:List Ct) (hN:l.length<2000000):oc.call 190 [.iol 3 (cts l),.clo 181 []]=some (.tup [],[.lst true 3 (cts (stb ltC l))]):=by
 refine qD rfl cd190 rfl rfl rfl (by simp;rfl) (by simp;rfl) ?_
 refine zB (w_ (m_ (h:=w_ (m_ (h:=w_ (le (h:=w_ (m_ (h:=w_ (?_))))))))))
 refine cI (hc:=qKr l hN) (hal:=kE (zOj zMu l).1.length_eq.symm) (h:=?_)
 refine zC (e_ (h:=?_))
 all_goals (refine qZ (hr:=zO) (h:=?_);(focus (simp)))
def zNh (x c:Ct):Ct:=⟨x.pl,x.ep,IntKind.i64.wrap (x.n+c.n)⟩
def xS:List Ct→Ct→List Ct
 | [],c=>[c]
 | x::r,c=>if ltC x c=true then x::xS r c else if ltC c x=true then c::x::r else zNh x c::r
theorem qD9 {x a b:Int}:IntKind.i64.wrap (IntKind.i64.wrap (x+a)+b)=IntKind.i64.wrap (IntKind.i64.wrap (x+b)+a):=by
 unfold IntKind.wrap;simp[IntKind.bits,IntKind.signed];omega
theorem zZk {a b:Int}:IntKind.i64.wrap (a+b)=IntKind.i64.wrap (b+a):=by rw[Int.add_comm]
theorem zCs {x y:Ct}:ltC x y=false↔¬(x.pl<y.pl∨x.pl=y.pl∧x.ep<y.ep):=by
 rw[←qX];simp
theorem yV (x:Ct) (r:List Ct) (c:Ct):xS (x::r) c=if ltC x c=true then x::xS r c else if ltC c x=true then c::x::r else zNh x c::r:=rfl
theorem zKm:∀(l:List Ct) (a b:Ct),xS (xS l a) b=xS (xS l b) a
 | [],a,b=>by
  show xS [a] b=xS [b] a
  rw[yV,yV]
  by_cases h1:ltC a b=true
  ·have h2:¬ltC b a=true:=by rw[qX] at h1 ⊢;omega
   rw[if_pos h1,if_neg h2,if_pos h1];rfl
  ·by_cases h2:ltC b a=true
   ·rw[if_neg h1,if_pos h2,if_pos h2];rfl
   ·rw[if_neg h1,if_neg h2,if_neg h2,if_neg h1]
    rw[qX] at h1 h2
    have e1:a.pl=b.pl:=by omega
    have e2:a.ep=b.ep:=by omega
    simp[zNh,e1,e2,zZk]
 | x::r,a,b=>by
  have ih:=zKm r a b
  have key:∀c:Ct,xS (x::r) c=if ltC x c=true then x::xS r c else if ltC c x=true then c::x::r else zNh x c::r:=fun c=>rfl
  have kn:∀(y:Ct) (q:List Ct) (c:Ct),xS (y::q) c=if ltC y c=true then y::xS q c else if ltC c y=true then c::y::q else zNh y c::q:=fun y q c=>rfl
  have hx:∀c d:Ct,(ltC (zNh x c) d=true↔ltC x d=true)∧(ltC d (zNh x c)=true↔ltC d x=true):=fun c d=>by
   simp only[qX,zNh,and_self]
  rw[key a,key b]
  by_cases a1:ltC x a=true
  ·rw[if_pos a1]
   by_cases b1:ltC x b=true
   ·rw[if_pos b1,kn,kn,if_pos b1,if_pos a1,ih]
   ·rw[if_neg b1]
    by_cases b2:ltC b x=true
    ·have ba:ltC b a=true:=by rw[qX] at *;omega
     rw[if_pos b2,kn,if_neg b1,if_pos b2,kn,if_pos ba,key,if_pos a1]
    ·rw[if_neg b2,kn,if_neg b1,if_neg b2,kn,if_pos ((hx b a).1.2 a1)]
  ·rw[if_neg a1]
   by_cases a2:ltC a x=true
   ·rw[if_pos a2]
    by_cases b1:ltC x b=true
    ·have ab:ltC a b=true:=by rw[qX] at *;omega
     rw[if_pos b1,kn,if_pos ab,key,if_pos b1,kn,if_neg a1,if_pos a2]
    ·rw[if_neg b1]
     by_cases b2:ltC b x=true
     ·rw[if_pos b2,kn a (x::r) b,kn b (x::r) a]
      by_cases ab:ltC a b=true
      ·have ba:¬ltC b a=true:=by rw[qX] at *;omega
       rw[if_pos ab,if_neg ba,if_pos ab,key,if_neg b1,if_pos b2]
      ·by_cases ba:ltC b a=true
       ·rw[if_neg ab,if_pos ba,if_pos ba,key,if_neg a1,if_pos a2]
       ·rw[if_neg ab,if_neg ba,if_neg ba,if_neg ab]
        rw[qX] at ab ba
        have e1:a.pl=b.pl:=by omega
        have e2:a.ep=b.ep:=by omega
        simp[zNh,e1,e2,zZk]
     ·have ab:ltC a b=true:=by rw[qX] at *;omega
      rw[if_neg b2,kn,if_pos ab,key,if_neg b1,if_neg b2,kn,if_neg (fun h=>a1 ((hx b a).1.1 h)),if_pos ((hx b a).2.2 a2)]
   ·rw[if_neg a2]
    by_cases b1:ltC x b=true
    ·rw[if_pos b1,kn,if_pos ((hx a b).1.2 b1),kn,if_neg a1,if_neg a2]
    ·rw[if_neg b1]
     by_cases b2:ltC b x=true
     ·have ba:ltC b a=true:=by rw[qX] at *;omega
      rw[if_pos b2,kn,if_neg (fun h=>b1 ((hx a b).1.1 h)),if_pos ((hx a b).2.2 b2),kn,if_pos ba,key,if_neg a1,if_neg a2]
     ·rw[if_neg b2,kn,if_neg (fun h=>b1 ((hx a b).1.1 h)),if_neg (fun h=>b2 ((hx a b).2.1 h)),kn,if_neg (fun h=>a1 ((hx b a).1.1 h)),if_neg (fun h=>a2 ((hx b a).2.1 h))]
      simp only[zNh,qD9]
theorem zX9 {l1 l2:List Ct} (p:l1.Perm l2):∀acc:List Ct,l1.foldl xS acc=l2.foldl xS acc:=by
 induction p with
 | nil=>intro acc;rfl
 | cons x _ ih=>intro acc;exact ih _
 | swap x y l=>intro acc;simp only[List.foldl_cons];rw[zKm]
 | trans _ _ ih1 ih2=>intro acc;rw[ih1,ih2]
theorem zCl {x c:Ct} (hx:ltC c x=false):∀{init:List Ct},(∀y∈init,ltC y c=true)→xS (init++[x]) c=if ltC x c=true then init++[x,c] else init++[zNh x c]
 | [],_=>by
  show xS [x] c=_
  rw[yV]
  by_cases h:ltC x c=true
  ·rw[if_pos h,if_pos h];rfl
  ·rw[if_neg h,if_neg h,if_neg (by simp[hx])];rfl
 | y::r,h=>by
  rw[List.cons_append,yV,if_pos (h y (List.mem_cons_self ..)),zCl hx (fun z hz=>h z (List.mem_cons_of_mem _ hz))]
  by_cases h:ltC x c=true
  ·rw[if_pos h,if_pos h];rfl
  ·rw[if_neg h,if_neg h];rfl
theorem zI4 {S:List Ct} (hS:Srt ltC 0 S.length S):∀i,i<S.length→∃init x,(S.take (i+1)).foldl xS []=init++[x]∧x.pl=(nth S i).pl∧x.ep=(nth S i).ep∧∀y∈init,ltC y (nth S i)=true
 | 0,h=>by
  refine⟨[],nth S 0,?_,rfl,rfl,fun y hy=>by cases hy⟩
  rw[List.take_add_one,zDo h];rfl
 | i+1,h=>by
  obtain⟨init,x,e,e1,e2,hy⟩:=zI4 hS i (by omega)
  have hle:=hS i (i+1) (by omega) (by omega) h
  rw[zCs] at hle
  have hxc:ltC (nth S (i+1)) x=false:=by rw[zCs];omega
  have hall:∀y∈init,ltC y (nth S (i+1))=true:=fun y h1=>by
   have:=hy y h1
   rw[qX] at this ⊢;omega
  rw[List.take_add_one,zDo h,List.foldl_append,e]
  show ∃init' x',xS (init++[x]) (nth S (i+1))=init'++[x']∧_
  rw[zCl hxc hall]
  by_cases hc:ltC x (nth S (i+1))=true
  ·rw[if_pos hc]
   refine⟨init++[x],nth S (i+1),by simp,rfl,rfl,fun y h1=>?_⟩
   rcases List.mem_append.1 h1 with h1|h1
   ·exact hall y h1
   ·rw[List.mem_singleton.1 h1];exact hc
  ·rw[if_neg hc]
   have hc':=hc
   rw[qX] at hc'
   rw[zCs] at hxc
   exact⟨init,zNh x (nth S (i+1)),rfl,by show x.pl=_;omega,by show x.ep=_;omega,hall⟩
theorem zDu:∀(l acc:List Ct),(acc++l).Pairwise (fun x y=>ltC x y=true)→l.foldl xS acc=acc++l
 | [],acc,_=>by simp
 | c::l,acc,h=>by
  have hacc:∀y∈acc,ltC y c=true:=fun y hy=>(List.pairwise_append.1 h).2.2 y hy c (List.mem_cons_self ..)
  have hput:xS acc c=acc++[c]:=by
   clear h
   induction acc with
   | nil=>rfl
   | cons y r ih=>rw[yV,if_pos (hacc y (List.mem_cons_self ..)),ih (fun z hz=>hacc z (List.mem_cons_of_mem _ hz))];rfl
  rw[List.foldl_cons,hput,zDu l (acc++[c]) (by simpa using h)]
  simp
theorem qKj {l m:List Ct} (h:l.Pairwise (fun x y=>ltC x y=true)):m.foldl xS l=(stb ltC (l++m)).foldl xS []:=by
 rw[zX9 (zOj zMu (l++m)).1,List.foldl_append,zDu l [] (by simpa using h)]
 rfl
end Go.Proofs.YtbcgenkegnmkhaaGreat.Ev
namespace Go.Proofs.YtbcgenkegnmkhaaGreat.Ev
open Go
set_option maxRecDepth 100000
set_option linter.unusedSimpArgs false
set_option linter.unusedVariables false
set_option maxHeartbeats 2000000
def xJ (t:Bool) (l:List (List Ct)):List V:=l.map fun x=>.lst t (lz t 3) (cts x)
@[simp] theorem ctss_len (t:Bool) (l:List (List Ct)):(xJ t l).length=l.length:=by simp[xJ]
@[simp] theorem ctss_nil (t:Bool):xJ t []=[]:=rfl
@[simp] theorem qJy (t:Bool) (x:List Ct) (l:List (List Ct)):xJ t (x::l) = .lst t (lz t 3) (cts x)::xJ t l:=rfl
@[simp] theorem qK9 (t:Bool) (l m:List (List Ct)):xJ t l++xJ t m=xJ t (l++m):=by simp[xJ]
@[simp] theorem qEc (l:List (List Ct)) (x:List Ct):xJ true l++[.lst true 3 (cts x)]=xJ true (l++[x]):=by simp[xJ]
@[simp] theorem qF2 (l:List (List Ct)) (x:List Ct):xJ false l++[.lst false 0 (cts x)]=xJ false (l++[x]):=by simp[xJ]
@[simp] theorem qJ3 (l:List (List Ct)) (i:Nat) (x:List Ct):(xJ true l).set i (.lst true 3 (cts x))=xJ true (l.set i x):=by simp[xJ,List.map_set]
@[simp] theorem qIq (l:List (List Ct)) (i:Nat) (x:List Ct):(xJ false l).set i (.lst false 0 (cts x))=xJ false (l.set i x):=by simp[xJ,List.map_set]
theorem zVz {t:Bool} {l:List (List Ct)} {i:Nat} {x:List Ct} (h:l[i]? = some x):(xJ t l)[i]? = some (.lst t (lz t 3) (cts x)):=by simp[xJ,h]
theorem qAl {t:Bool} {l:List (List Ct)} {i:Nat} (h:i<l.length):(xJ t l)[(i:Int).toNat]? = some (.lst t (lz t 3) (cts l[i])):=zVz (by simp[h])
theorem zEj {t:Bool} {l:List (List Ct)} {i:Nat} (h:i<l.length):∃x,l[i]? = some x∧l.drop i=x::l.drop (i+1)∧(xJ t l)[(i:Int).toNat]? = some (.lst t (lz t 3) (cts x)) :=
 ⟨l[i],by simp[h],List.drop_eq_getElem_cons h,qAl h⟩
@[simp] theorem qKs (t:Bool) (n:Nat) (l:List (List Ct)):(xJ t l).take n=xJ t (l.take n):=by simp[xJ,List.map_take]
@[simp] theorem qIk (t:Bool) (n:Nat) (l:List (List Ct)):(xJ t l).drop n=xJ t (l.drop n):=by simp[xJ,List.map_drop]
@[simp] theorem qAp (t:Bool) (l:List (List Ct)):V.shareL (xJ t l)=xJ false l:=by
 induction l with
 | nil=>rfl
 | cons x l ih=>simp[V.shareL,ih,kF]
@[simp] theorem qEx (l:List (List Ct)):V.tidyL (xJ true l)=true:=by
 induction l with
 | nil=>rfl
 | cons x l ih=>simp[V.tidyL,V.tidy,ih]
@[simp] theorem qE1 (t u:Bool) (a b:List (List Ct)):V.alikeL (xJ t a) (xJ u b)=decide (a.length=b.length):=zB1 (fun _ _=>rfl)
abbrev ctZ:V:=.agg [.int .i64 0,.int .i64 0,.int .i64 0]
theorem zRt (e:List (Nat×V)) (o:List (Nat×Ob)) (k:Int) (hk:0<k) (hk2:k<2000000):oc.call.i 231 [.emp true,.int .i64 k] ⟨e,o,33⟩ 33=some (.ref 609 0 0,⟨e,(609,⟨false,false,3,List.replicate k.toNat ctZ,0⟩)::o,833⟩):=by
 have h0:IntKind.i64.wrap (0 - 0)=0:=by decide
 have hw:IntKind.i64.wrap (k - IntKind.i64.wrap (0 - 0))=k:=by rw[h0,Int.sub_zero];exact qH (by omega) (by omega)
 apply zTf (by rw[zR0];rfl) qL9 rfl rfl (by simp;rfl)
 refine wa_ (zB (w_ (aN (h:=zC (e_ (h:=zA (wa_ (wa_ (zB (w_ (m_ (h:=w_ (b_ (h:=zC (e_ (h:=zA (?_)))))))))))))))))
 refine c_ (h1:=?_) (h2:=?_)
 rotate_right 1
 focus
  intro c1
  first
  | exact dn c1
  | (
   have d1:=c1;try simp at d1
   refine zD (?_)
   )
 rotate_right 1
 focus
  intro c1
  first
  | exact dn c1
  | (
   have d1:=c1;try simp at d1
   exfalso;omega
   )
 all_goals first
 | (
  refine zA ?_
  refine wa_ (wa_ (zB (w_ (m_ (h:=w_ (m_ (h:=w_ (cc (h:=w_ (m_ (h:=w_ (le (h:=w_ (b_ (h:=w_ (b_ (h:=w_ (a_ (h:=zC (e_ (h:=?_)))))))))))))))))))))
  refine zA (wa_ (zB (w_ (m_ (h:=w_ (b_ (h:=zC (e_ (h:=zA (?_))))))))))
  refine c_ (h1:=?_) (h2:=?_)
  rotate_right 1
  focus
   intro c2
   first
   | exact dn c2
   | (
    have d2:=c2;try simp at d2
    exfalso;rw[hw] at c2;simp at c2;omega
    )
  rotate_right 1
  focus
   intro c2
   first
   | exact dn c2
   | (
    have d2:=c2;try simp at d2
    refine zB (w_ (m_ (h:=w_ (m_ (h:=w_ (cc (h:=w_ (sl (h:=w_ (m_ (h:=w_ (?_))))))))))))
    simp only[hw];refine apZ (h:=?_)
    refine w_ (m_ (h:=w_ (le (h:=w_ (sl (h:=w_ (a_ (h:=zC (e_ (h:=?_))))))))))
    )
  all_goals first
  | (
   refine zA ?_
   refine wa_ (zB (w_ (m_ (h:=w_ (a_ (h:=zC (e_ (h:=zA (zH (?_))))))))))
   )
  )
 all_goals (exact⟨by simp,_,rfl,rfl,rfl⟩)
theorem zRl (e:List (Nat×V)) (o:List (Nat×Ob)):oc.call.i 231 [.emp true,.int .i64 0] ⟨e,o,33⟩ 33=some (.emp true,⟨e,o,513⟩):=by
 have h0:IntKind.i64.wrap (0 - 0)=0:=by decide
 have hw:IntKind.i64.wrap (0 - IntKind.i64.wrap (0 - 0))=0:=by rw[h0];decide
 apply zTf (by rw[zR0];rfl) qL9 rfl rfl (by simp;rfl)
 refine wa_ (zB (w_ (aN (h:=zC (e_ (h:=zA (wa_ (wa_ (zB (w_ (m_ (h:=w_ (b_ (h:=zC (e_ (h:=zA (?_)))))))))))))))))
 refine c_ (h1:=?_) (h2:=?_)
 rotate_right 1
 focus
  intro c1
  first
  | exact dn c1
  | (
   have d1:=c1;try simp at d1
   refine zD (?_)
   )
 rotate_right 1
 focus
  intro c1
  first
  | exact dn c1
  | (
   have d1:=c1;try simp at d1
   exfalso;omega
   )
 all_goals first
 | (
  refine zA ?_
  refine wa_ (wa_ (zB (w_ (m_ (h:=w_ (m_ (h:=w_ (cc (h:=w_ (m_ (h:=w_ (le (h:=w_ (b_ (h:=w_ (b_ (h:=w_ (a_ (h:=zC (e_ (h:=?_)))))))))))))))))))))
  refine zA (wa_ (zB (w_ (m_ (h:=w_ (b_ (h:=zC (e_ (h:=zA (?_))))))))))
  refine c_ (h1:=?_) (h2:=?_)
  rotate_right 1
  focus
   intro c2
   first
   | exact dn c2
   | (
    have d2:=c2;try simp at d2
    refine zD (?_)
    )
  rotate_right 1
  focus
   intro c2
   first
   | exact dn c2
   | (
    have d2:=c2;try simp at d2
    exfalso;rw[hw] at c2;simp at c2
    )
  all_goals first
  | (
   refine zA ?_
   refine wa_ (zB (w_ (m_ (h:=w_ (a_ (h:=zC (e_ (h:=zA (zH (?_))))))))))
   )
  )
 all_goals (exact⟨by simp,_,rfl,rfl,rfl⟩)
theorem zVr {α:Type} {f:α→Nat} {l:List α} {i:Nat} {x:α} (h:l[i]? = some x):wS f (l.take (i+1))=wS f (l.take i)+f x:=by
 induction l generalizing i with
 | nil=>simp at h
 | cons y r ih =>
  cases i with
  | zero=>simp at h;subst h;simp
  | succ i=>simp at h;simp only[List.take_succ_cons,vR];rw[ih h];omega
theorem zUa {α:Type} {f:α→Nat} {l:List α} {i:Nat}:wS f (l.take i)≤wS f l:=by
 induction l generalizing i with
 | nil=>simp
 | cons y r ih =>
  cases i with
  | zero=>simp
  | succ i=>have:=ih (i:=i);simp only[List.take_succ_cons,vR];omega
def yA (l:List (List Ct)):Nat:=wS List.length l
theorem zC1 {l:List (List Ct)} {i:Nat} {x:List Ct} (h:l[i]? = some x):yA (l.take (i+1))=yA (l.take i)+x.length:=zVr h
theorem vK {l:List (List Ct)} {i:Nat}:yA (l.take i)≤yA l:=zUa
theorem lenS_flatC {l:List (List Ct)}:l.flatten.length=yA l:=by
 induction l with
 | nil=>rfl
 | cons x r ih=>simp only[List.flatten_cons,List.length_append,ih,yA,vR]
theorem zFe {l:List (List Ct)} {i:Nat} {x:List Ct} (h:l[i]? = some x):(l.take (i+1)).flatten=(l.take i).flatten++x:=by
 rw[List.take_add_one,h];simp
theorem zNl (ls:List (List Ct)) (hl:ls.length<2000000) (hs0:yA ls<2000000):∀i:Nat,(i≤ls.length)→∀s,zI 1 (some [0,3,9,10,11]) s=⟨[(0,.lst false 0 (xJ false ls)),(3,.int .i64 (yA (ls.take i):Nat)),(9,.lst false 0 (xJ false ls)),(10,.int .i64 ls.length),(11,.int .i64 i)],[],1⟩ →
 oc.loop 189 3 s=some (.exit 0,⟨[(0,.lst false 0 (xJ false ls)),(3,.int .i64 (yA ls:Nat))],[],1⟩):=by
 refine zW (σ:=Nat) (fun i=>ls.length - i) _ (fun i=>⟨[(0,.lst false 0 (xJ false ls)),(3,.int .i64 (yA (ls.take i):Nat)),(9,.lst false 0 (xJ false ls)),(10,.int .i64 ls.length),(11,.int .i64 i)],[],1⟩) _ ?_
 intro i hi ih s hs
 refine qB zQm rfl rfl hs ?_
 refine wa_ (zB (w_ (b_ (h:=zC (e_ (h:=zA (wa_ (?_))))))))
 refine c_ (h1:=?_) (h2:=?_)
 rotate_right 1
 focus
  intro c1
  first
  | exact dn c1
  | (
   have d1:=c1;try simp at d1
   refine zX (?_)
   )
 rotate_right 1
 focus
  intro c1
  first
  | exact dn c1
  | (
   have d1:=c1;try simp at d1
   have hw:=zV (i:=i) (by omega);obtain⟨c,hx,e1,g1⟩:=zEj (t:=false) (l:=ls) (i:=i) (by omega);have hcut:=zC1 hx;have hle:=vK (l:=ls) (i:=i+1);have hws:IntKind.i64.wrap ((yA (ls.take i):Nat)+(c.length:Int))=(yA (ls.take (i+1)):Nat):=(qH (by omega) (by omega)).trans (by omega)
   refine zD (?_)
   )
 all_goals first
 | refine zS ?_
 | (
  refine zA ?_
  refine wa_ (zG (wa_ (zB (w_ (x_ (h:=w_ (l_ (h:=w_ (a_ (h:=zC (e_ (h:=zA (wa_ (zB (w_ (m_ (h:=?_)))))))))))))))))
  refine w_ (m_ (h:=w_ (le (h:=w_ (b_ (h:=w_ (a_ (h:=zC (e_ (h:=zA (wa_ (zB (w_ (m_ (h:=w_ (b_ (h:=zC (e_ (h:=zA (?_))))))))))))))))))))
  refine c_ (h1:=?_) (h2:=?_)
  rotate_right 1
  focus
   intro c2
   first
   | exact dn c2
   | (
    have d2:=c2;try simp at d2
    refine zD (?_)
    )
  rotate_right 1
  focus
   intro c2
   first
   | exact dn c2
   | (
    have d2:=c2;try simp at d2
    exfalso;clear ih hs;omega
    )
  all_goals refine zJ ?_
  all_goals first
  | (
   refine zA ?_
   refine zB (w_ (b_ (h:=w_ (m_ (h:=zC (e_ (h:=?_)))))))
   )
  )
 all_goals first
 | (refine(ih (i+1) (by omega) ?_ _ ?_).trans ?_;(focus (first|omega|(simp;done)|(simp;omega)));(focus (simp[zI,hw,hws];done));(focus (rfl)))
 | (apply zM (ex:=(Ext.exit 0)) 1 (some [0,3]);(focus (simp[zI];rfl));(focus (rw[List.take_of_length_le (by omega)])))
theorem zYr (ls:List (List Ct)) (hl:ls.length<2000000) (hs0:yA ls<2000000):∀i:Nat,(i≤ls.length)→∀s,zI 1 (some [6,25,26,27]) s=⟨[(6,.ref 1 0 (yA (ls.take i))),(25,.lst false 0 (xJ false ls)),(26,.int .i64 ls.length),(27,.int .i64 i)],[(1,⟨false,false,3,cts (ls.take i).flatten,0⟩)],2⟩ →
 oc.loop 189 11 s=some (.exit 2,⟨[(6,.ref 1 0 (yA ls))],[(1,⟨false,false,3,cts ls.flatten,0⟩)],2⟩):=by
 refine zW (σ:=Nat) (fun i=>ls.length - i) _ (fun i=>⟨[(6,.ref 1 0 (yA (ls.take i))),(25,.lst false 0 (xJ false ls)),(26,.int .i64 ls.length),(27,.int .i64 i)],[(1,⟨false,false,3,cts (ls.take i).flatten,0⟩)],2⟩) _ ?_
 intro i hi ih s hs
 refine qB zQm rfl rfl hs ?_
 have hT:=vK (l:=ls) (i:=i)
 generalize hF:(ls.take i).flatten=F
 have hN:yA (ls.take i)=F.length:=by rw[←hF];exact lenS_flatC.symm
 rw[hN] at hT ⊢
 refine wa_ (zB (w_ (b_ (h:=zC (e_ (h:=zA (wa_ (?_))))))))
 refine c_ (h1:=?_) (h2:=?_)
 rotate_right 1
 focus
  intro c1
  first
  | exact dn c1
  | (
   have d1:=c1;try simp at d1
   refine zX (?_)
   )
 rotate_right 1
 focus
  intro c1
  first
  | exact dn c1
  | (
   have d1:=c1;try simp at d1
   have hw:=zV (i:=i) (by omega);obtain⟨c,hx,e1,g1⟩:=zEj (t:=false) (l:=ls) (i:=i) (by omega);have hcut:=zC1 hx;rw[hN] at hcut;have hle:=vK (l:=ls) (i:=i+1);have hfl:=zFe hx;rw[hF] at hfl
   refine zD (?_)
   )
 all_goals first
 | refine zS ?_
 | (
  refine zA ?_
  refine wa_ (zG (wa_ (zB (w_ (x_ (h:=w_ (l_ (h:=w_ (a_ (h:=zC (e_ (h:=zA (zB (w_ (m_ (h:=w_ (m_ (h:=?_))))))))))))))))))
  refine w_ (ap (h:=w_ (a_ (h:=zC (e_ (h:=zJ (zA (zB (w_ (b_ (h:=w_ (m_ (h:=zC (e_ (h:=?_)))))))))))))))
  )
 all_goals first
 | (refine(ih (i+1) (by omega) ?_ _ ?_).trans ?_;(focus (first|omega|(simp;done)|(simp;omega)));(focus (simp[zI,hw,hcut,hfl];done));(focus (rfl)))
 | (apply zM (ex:=(Ext.exit 2)) 1 (some [6]);(focus (simp[zI];rfl));(focus (rw[List.take_of_length_le (by omega)] at hF hN;subst hF;simp[hN])))
theorem zWk (ls:List (List Ct)) (hl:ls.length<2000000) (hs0:yA ls<2000000) (hne:0<ls.length) (L:List Ct) (hL:ls.flatten=L):∀s,zI 1 (some [6,25,26,27]) s=⟨[(6,.emp true),(25,.lst false 0 (xJ false ls)),(26,.int .i64 ls.length),(27,.int .i64 0)],[],1⟩→oc.loop 189 11 s=some (.exit 2,⟨[(6,.ref 1 0 L.length)],[(1,⟨false,false,3,cts L,0⟩)],2⟩):=by
 intro s hs
 obtain⟨c,hx,e1,g1⟩:=zEj (t:=false) (l:=ls) (i:=0) hne
 change (xJ false ls)[(0:Int).toNat]? = _ at g1
 have hcut:=zC1 hx
 have hfl:=zFe hx
 have hle:=vK (l:=ls) (i:=0+1)
 have hw:IntKind.i64.wrap (0+1)=1:=by decide
 have hw1:IntKind.i64.wrap 1=1:=by decide
 have hcl:c.length<2000000:=by omega
 simp[yA] at hcut hfl
 refine qB zQm rfl rfl hs ?_
 refine wa_ (zB (w_ (b_ (h:=zC (e_ (h:=zA (wa_ (?_))))))))
 refine c_ (h1:=?_) (h2:=?_)
 rotate_right 1
 focus
  intro c1
  first
  | exact dn c1
  | (
   have d1:=c1;try simp at d1
   exfalso;rw[decide_eq_false_iff_not] at c1;omega
   )
 rotate_right 1
 focus
  intro c1
  first
  | exact dn c1
  | (
   have d1:=c1;try simp at d1
   refine zD (?_)
   )
 all_goals first
 | refine zS ?_
 | (
  refine zA ?_
  refine wa_ (zG (wa_ (zB (w_ (x_ (h:=w_ (l_ (h:=w_ (a_ (h:=zC (e_ (h:=zA (zB (w_ (m_ (h:=w_ (m_ (h:=?_))))))))))))))))))
  refine w_ (ap (h:=w_ (a_ (h:=zC (e_ (h:=zJ (zA (zB (w_ (b_ (h:=w_ (m_ (h:=zC (e_ (h:=?_)))))))))))))))
  )
 all_goals (refine(zYr ls hl hs0 1 (by omega) _ ?_).trans (by rw[←lenS_flatC,hL]);(simp[zI,hw,hw1,yA,hcut,hfl];done))
theorem zWl (ls:List (List Ct)) (k:Nat) (hl:ls.length<2000000) (hs0:yA ls<2000000) (hne:0<ls.length) (L:List Ct) (hL:ls.flatten=L):∀s,zI 1 (some [6,25,26,27]) s=⟨[(6,.ref 1 0 0),(25,.lst false 0 (xJ false ls)),(26,.int .i64 ls.length),(27,.int .i64 0)],[(1,⟨false,false,3,List.replicate k ctZ,0⟩)],2⟩→oc.loop 189 11 s=some (.exit 2,⟨[(6,.ref 1 0 L.length)],[(1,⟨false,false,3,cts L,0⟩)],2⟩):=by
 intro s hs
 obtain⟨c,hx,e1,g1⟩:=zEj (t:=false) (l:=ls) (i:=0) hne
 change (xJ false ls)[(0:Int).toNat]? = _ at g1
 have hcut:=zC1 hx
 have hfl:=zFe hx
 have hle:=vK (l:=ls) (i:=0+1)
 have hw:IntKind.i64.wrap (0+1)=1:=by decide
 have hw1:IntKind.i64.wrap 1=1:=by decide
 have hcl:c.length<2000000:=by omega
 simp[yA] at hcut hfl
 refine qB zQm rfl rfl hs ?_
 refine wa_ (zB (w_ (b_ (h:=zC (e_ (h:=zA (wa_ (?_))))))))
 refine c_ (h1:=?_) (h2:=?_)
 rotate_right 1
 focus
  intro c1
  first
  | exact dn c1
  | (
   have d1:=c1;try simp at d1
   exfalso;rw[decide_eq_false_iff_not] at c1;omega
   )
 rotate_right 1
 focus
  intro c1
  first
  | exact dn c1
  | (
   have d1:=c1;try simp at d1
   refine zD (?_)
   )
 all_goals first
 | refine zS ?_
 | (
  refine zA ?_
  refine wa_ (zG (wa_ (zB (w_ (x_ (h:=w_ (l_ (h:=w_ (a_ (h:=zC (e_ (h:=zA (zB (w_ (m_ (h:=w_ (m_ (h:=?_))))))))))))))))))
  refine w_ (ap (h:=w_ (a_ (h:=zC (e_ (h:=zJ (zA (zB (w_ (b_ (h:=w_ (m_ (h:=zC (e_ (h:=?_)))))))))))))))
  )
 all_goals (refine(zYr ls hl hs0 1 (by omega) _ ?_).trans (by rw[←lenS_flatC,hL]);(simp[zI,hw,hw1,yA,hcut,hfl];done))
theorem qIt (ls:List (List Ct)) (hl:ls.length<2000000) (hs0:yA ls<2000000) (hne:0<ls.length):oc.call 189 [.lst false 0 (xJ false ls)]=some (.lst true 3 (cts ls.flatten),[]):=by
 obtain⟨L,hL⟩:∃L,ls.flatten=L:=⟨_,rfl⟩
 rw[hL]
 rcases Nat.eq_zero_or_pos (yA ls) with hz|hz
 ·refine qD rfl zQm rfl rfl rfl (by simp;rfl) (by simp;rfl) ?_
  refine wa_ (zB (w_ (aN (h:=zC (e_ (h:=zA (wa_ (zB (w_ (a_ (h:=zC (e_ (h:=zA (wa_ (wa_ (?_))))))))))))))))
  refine zB (w_ (m_ (h:=w_ (le (h:=w_ (m_ (h:=zC (e_ (h:=zA (zG (?_)))))))))))
  refine qF (zNl ls hl hs0 0 (by omega) _ (by simp[zI,yA])) ?_
  refine zT (zA (wa_ (zB (w_ (m_ (h:=?_))))))
  first|refine i_ (hc:=(by simp only[hz];exact zRl _ _)) (h:=?_)
  refine w_ (a_ (h:=zC (e_ (h:=zA (wa_ (wa_ (zB (w_ (m_ (h:=w_ (le (h:=w_ (m_ (h:=zC (e_ (h:=zA (zG (?_))))))))))))))))))
  refine qF (zWk ls hl hs0 hne L hL _ (by simp[zI])) ?_
  refine zT (zA (wa_ (zB (w_ (m_ (h:=w_ (a_ (h:=zC (e_ (h:=zA (zH (?_))))))))))))
  all_goals (refine qZ (hr:=(zR rfl zO)) (h:=?_);(focus (simp)))
 ·refine qD rfl zQm rfl rfl rfl (by simp;rfl) (by simp;rfl) ?_
  refine wa_ (zB (w_ (aN (h:=zC (e_ (h:=zA (wa_ (zB (w_ (a_ (h:=zC (e_ (h:=zA (wa_ (wa_ (?_))))))))))))))))
  refine zB (w_ (m_ (h:=w_ (le (h:=w_ (m_ (h:=zC (e_ (h:=zA (zG (?_)))))))))))
  refine qF (zNl ls hl hs0 0 (by omega) _ (by simp[zI,yA])) ?_
  refine zT (zA (wa_ (zB (w_ (m_ (h:=?_))))))
  first|refine i_ (hc:=zRt _ _ (yA ls:Nat) (by omega) (by omega)) (h:=?_)
  refine w_ (a_ (h:=zC (e_ (h:=zA (wa_ (wa_ (zB (w_ (m_ (h:=w_ (le (h:=w_ (m_ (h:=zC (e_ (h:=zA (zG (?_))))))))))))))))))
  refine qF (zWl ls (yA ls) hl hs0 hne L hL _ (by simp[zI])) ?_
  refine zT (zA (wa_ (zB (w_ (m_ (h:=w_ (a_ (h:=zC (e_ (h:=zA (zH (?_))))))))))))
  all_goals (refine qZ (hr:=(zR rfl zO)) (h:=?_);(focus (simp)))
section
variable {id base : Nat} {e : List (Nat × V)} {o : List (Nat × Ob)} {n : Nat} {t : TypeId} {K : V→List (Nat × Ob)→Prop}
theorem caT {args:Array Operand} {ts:Array TypeId} {fo:Operand} {f g:FuncId} {q m sz:Nat} {ys:List V} {ob:Ob} {o1:List (Nat×Ob)} {id':Nat} (hx:jX e args.toList=some [.ref q 0 m,.clo g []]:=by exact rfl) (hf:opV e fo=some (.clo f []):=by exact rfl) (hB:cf.inB f=false:=by(rw[zCp];rfl)) (hmd:cf.md f=[.take]:=by(rw[xW];rfl)) (ho:zN o q=some ob:=by exact rfl) (hb:ob.bx=false:=by rfl) (hfx:ob.fx=false:=by rfl) (hm:m=ob.xs.length:=by first|rfl|simp) (hd:jU o q=o1:=by(simp;rfl))
  (hc:oc.call f [.lst true ob.sz ob.xs,.clo g []]=some (.lst true sz ys,[])) (hid:id=id':=by((try simp);rfl)) (h:K (.ref id' 0 ys.length) ((id',⟨false,false,sz,ys,0⟩)::o1)):opK oc.call cf id base e o n t (.call ⟨.value fo,args,ts⟩) K:=by
 subst hd hm hid
 refine⟨_,_,?_,h⟩
 have hg:St.give ⟨e,o,n⟩ q 0 ob.xs.length=some (ob.sz,ob.xs,⟨e,jU o q,n⟩):=by
  simp only[St.give,ho,hb,hfx,Nat.zero_add,Nat.le_refl,and_self,if_true,List.drop_zero,List.take_length]
 have hz:V.fz (.ref q 0 ob.xs.length) ⟨e,o,n⟩=some (.lst true ob.sz ob.xs,⟨e,jU o q,n⟩):=by
  simp only[V.fz,hg,zK]
 have hs:V.snapA ⟨e,jU o q,n⟩ (.clo g [])=some (.clo g []):=rfl
 simp only[opE,hx,hf,V.capsOk,if_true,hB,Bool.false_eq_true,if_false,List.append_nil,yM,hmd,jJ,qT,List.headD_cons,List.tail_cons,List.headD_nil,List.tail_nil,hz,V.argOk,V.isTup,jC,hs,zK,hc,xB,V.mention,V.mentionL,List.isEmpty_nil,true_or,V.thaw,true_and,xX,List.nil_append,List.singleton_append]
 rw[if_pos (by omega)]
end
end Go.Proofs.YtbcgenkegnmkhaaGreat.Ev
namespace Go.Proofs.YtbcgenkegnmkhaaGreat.Ev
open Go
set_option maxRecDepth 100000
set_option linter.unusedSimpArgs false
set_option linter.unusedVariables false
set_option maxHeartbeats 2000000
theorem zOx {l:List Ct} {i:Nat} {x:Ct} (h:l[i]? = some x):(cts l)[i]? = some x.v:=by simp[cts,h]
def xD (p:Ct→Bool) (i:Nat):List (Ct)→Int
 | []=>-1
 | x::r=>if p x=true then i else xD p (i+1) r
theorem zKa {p:Ct→Bool}:∀{l:List (Ct)} {i:Nat},decide (0≤xD p i l)=l.any p
 | [],i=>by simp[xD]
 | x::r,i=>by
  unfold xD
  by_cases h:p x=true
  ·simp[h]
  ·simp only[if_neg h,List.any_cons,zKa (l:=r) (i:=i+1)];simp[h]
theorem zLj (l:List (Ct))  (p:Ct→Bool) (hl:l.length<2000000) (hc:∀x∈l,oc.call 192 [x.v]=some (.bool (p x),[])):∀i:Nat,i≤l.length→∀s,zI 2 (some [0,1,7,8]) s=⟨[(0,.lst false 0 (cts l)),(1,.clo 192 []),(7,.int .i64 l.length),(8,.int .i64 i)],[],2⟩ →
 oc.loop 233 2 s=some (if 0≤xD p i (l.drop i) then(.ret,⟨[(4,.int .i64 (xD p i (l.drop i)))],[],2⟩) else(.exit 0,⟨[],[],2⟩)):=by
 refine zW (fun i=>l.length - i) _ (fun i=>⟨[(0,.lst false 0 (cts l)),(1,.clo 192 []),(7,.int .i64 l.length),(8,.int .i64 i)],[],2⟩) _ ?_
 intro i hi ih s hs
 refine qB zWf rfl rfl hs ?_
 refine wa_ (zB (w_ (b_ (h:=zC (e_ (h:=zA (wa_ (?_))))))))
 refine c_ (h1:=?_) (h2:=?_)
 rotate_right 1
 focus
  intro c1
  first
  | exact dn c1
  | (
   have d1:=c1;try simp at d1
   refine zX (?_)
   )
 rotate_right 1
 focus
  intro c1
  first
  | exact dn c1
  | (
   have d1:=c1;try simp at d1
   have hw:=zV (i:=i) (by omega);obtain⟨x,hx,e1,g1⟩:=zDm (l:=l) (i:=i) (by omega);have hq:=hc x (List.mem_of_getElem? hx)
   refine zD (?_)
   )
 all_goals first
 | refine zS ?_
 | (
  refine zA ?_
  refine wa_ (zG (wa_ (zB (w_ (m_ (h:=w_ (a_ (h:=zC (e_ (h:=zA (wa_ (zB (w_ (m_ (h:=w_ (m_ (h:=?_)))))))))))))))))
  refine w_ (m_ (h:=w_ (x_ (h:=w_ (l_ (h:=w_ (?_)))))))
  refine zFx rfl rfl (by rw[zCp];rfl) rfl (by rw[xW];rfl) (by simp[xW,mdT];rfl) (by first|rfl|simp[*]) hq rfl (by simp;rfl) (by simp[xW,mdT]) (by simp;rfl) (by simp;rfl) ?_
  refine zC (e_ (h:=zA (?_)))
  refine c_ (h1:=?_) (h2:=?_)
  rotate_right 1
  focus
   intro c2
   first
   | exact dn c2
   | (
    have d2:=c2;try simp at d2
    refine zD (?_)
    )
  rotate_right 1
  focus
   intro c2
   first
   | exact dn c2
   | (
    have d2:=c2;try simp at d2
    refine wa_ (zB (w_ (m_ (h:=w_ (a_ (h:=zC (e_ (h:=zA (zH (?_))))))))))
    )
  all_goals first|refine zJ ?_|refine zY ?_
  all_goals first
  | refine zL ?_
  | (
   refine zA ?_
   refine zB (w_ (b_ (h:=w_ (m_ (h:=zC (e_ (h:=?_)))))))
   )
  )
 all_goals first
 | (refine(ih (i+1) (by omega) ?_ _ ?_).trans ?_;(focus (first|omega|(simp;done)|(simp;omega)));(focus (simp[zI,hw];done));(focus (rw[e1];simp only[xD,if_neg (show ¬p x=true by simp[d2])])))
 | (apply zM (ex:=Ext.ret) 2 (some [4]);(focus (simp[zI];rfl));(focus (rw[e1];simp[xD,d2])))
 | (apply zM (ex:=(Ext.exit 0)) 2 (some [4]);(focus (simp[zI];rfl));(focus (rw[List.drop_eq_nil_of_le (by omega)];simp[xD])))
theorem zKy (l:List (Ct))  (p:Ct→Bool) (hl:l.length<2000000) (hc:∀x∈l,oc.call 192 [x.v]=some (.bool (p x),[])):oc.call 233 [.lst false 0 (cts l),.clo 192 []]=some (.int .i64 (if 0≤xD p 0 l then xD p 0 l else -1),[]):=by
 refine qD rfl zWf rfl rfl rfl (by simp;rfl) (by simp;rfl) ?_
 refine wa_ (zB (w_ (a_ (h:=zC (e_ (h:=zA (wa_ (wa_ (zB (w_ (m_ (h:=w_ (le (h:=w_ (m_ (h:=zC (e_ (h:=?_))))))))))))))))))
 refine zA (zG (?_))
 refine qR (zLj l  p hl hc 0 (by omega) _ (by simp[zI])) ?_ ?_
 rotate_right 1
 focus
  intro c1
  skip
 rotate_right 1
 focus
  intro c1
  skip
 all_goals first|refine zY ?_|refine zT ?_
 all_goals first
 | refine zL ?_
 | (
  refine zA ?_
  refine wa_ (zB (w_ (a_ (h:=zC (e_ (h:=zA (zH (?_))))))))
  )
 all_goals (refine qZ (hr:=(zR rfl zO)) (h:=?_);(focus (clear hc;first|(simp_all;done)|(simp_all<;>omega))))
theorem zZn (d:Ct):oc.call 192 [d.v]=some (.bool (decide (d.n=0)),[]):=by
 refine qD rfl cd192 rfl rfl rfl (by simp;rfl) (by simp;rfl) ?_
 refine wa_ (zB (w_ (bx (h:=w_ (a_ (h:=zC (e_ (h:=zA (wa_ (zB (w_ (f_ (h:=w_ (l_ (h:=w_ (bE (h:=w_ (a_ (h:=?_)))))))))))))))))))
 refine zC (e_ (h:=zA (zH (?_))))
 all_goals (refine qZ (hr:=(zR rfl zO)) (h:=?_);(focus (simp)))
def zD7 (d:Ct):Bool:=decide (¬d.n=0)
def zG1 (d:Ct):Bool:=decide (d.n=0)
theorem zKc:∀{l:List Ct} {i:Nat},¬0≤xD zG1 i l→l.filter zD7=l
 | [],_,_=>rfl
 | x::r,i,h=>by
  unfold xD at h
  by_cases hx:zG1 x=true
  ·rw[if_pos hx] at h;omega
  ·rw[if_neg hx] at h
   have h4:zD7 x=true:=by simp[zG1] at hx;simp[zD7,hx]
   rw[List.filter_cons,if_pos h4,zKc h]
theorem zKg:∀{l:List Ct} {i:Nat},0≤xD zG1 i l→∃k:Nat,xD zG1 i l=((i+k:Nat):Int)∧k<l.length∧(l.take k).filter zD7=l.take k∧(l.drop k).filter zD7=(l.drop (k+1)).filter zD7
 | [],i,h=>by simp[xD] at h
 | x::r,i,h=>by
  unfold xD at h ⊢
  by_cases hx:zG1 x=true
  ·rw[if_pos hx]
   have h4:¬zD7 x=true:=by simp[zG1] at hx;simp[zD7,hx]
   exact⟨0,by simp,by simp,rfl,by simp[h4]⟩
  ·rw[if_neg hx] at h ⊢
   obtain⟨k,e1,e2,e3,e4⟩:=zKg h
   have h4:zD7 x=true:=by simp[zG1] at hx;simp[zD7,hx]
   exact⟨k+1,by rw[e1];congr 1;omega,by simp;omega,by rw[List.take_succ_cons,List.filter_cons,if_pos h4,e3],by simpa using e4⟩
def zC2:List Ct→Nat→List Ct→Nat×List Ct
 | [],i,r=>(i,r)
 | d::t,i,r=>if zD7 d=true then zC2 t (i+1) (r.set i d) else zC2 t i r
theorem zJ4:∀{t:List Ct} {i:Nat} {r:List Ct},i+t.length<r.length→(zC2 t i r).2.length=r.length∧(zC2 t i r).1<r.length∧(zC2 t i r).2.take (zC2 t i r).1=r.take i++t.filter zD7
 | [],i,r,h=>by simp[zC2] at *;exact h
 | d::t,i,r,h=>by
  simp only[List.length_cons] at h
  unfold zC2
  by_cases hd:zD7 d=true
  ·rw[if_pos hd]
   obtain⟨h1,h2,h3⟩:=zJ4 (t:=t) (i:=i+1) (r:=r.set i d) (by simp;omega)
   simp only[List.length_set] at h1 h2
   refine⟨h1,h2,?_⟩
   rw[h3,List.filter_cons,if_pos hd]
   have:(r.set i d).take (i+1)=r.take i++[d]:=by
    rw[List.take_add_one,List.getElem?_set_self (by omega),List.take_set_of_le (by omega)];rfl
   rw[this];simp
  ·rw[if_neg hd]
   obtain⟨h1,h2,h3⟩:=zJ4 (t:=t) (i:=i) (r:=r) (by omega)
   exact⟨h1,h2,by rw[h3,List.filter_cons,if_neg hd]⟩
theorem zI2 {α:Type} {r l:List α} {j:Nat} (h:r.drop j=l.drop j):r.drop (j+1)=l.drop (j+1):=by
 rw[←List.drop_drop,h,List.drop_drop]
theorem qHj (l:List Ct) (N:Nat) (hN:l.length=N) (hl:N<2000000):∀x:Nat×Nat×(List Ct),(x.1<x.2.1∧x.2.1≤N∧x.2.2.length=N∧x.2.2.drop x.2.1=l.drop x.2.1)→∀s,zI 2 (some [0,1,5,6]) s=⟨[(0,.ref 0 0 N),(1,.clo 192 []),(5,.int .i64 x.1),(6,.int .i64 x.2.1)],[(0,⟨false,false,3,cts x.2.2,0⟩)],2⟩ →
 oc.loop 191 5 s=some (.exit 0,⟨[(0,.ref 0 0 N),(5,.int .i64 ((zC2 (l.drop x.2.1) x.1 x.2.2).1:Nat))],[(0,⟨false,false,3,cts (zC2 (l.drop x.2.1) x.1 x.2.2).2,0⟩)],2⟩):=by
 refine zW (σ:=Nat×Nat×(List Ct)) (fun x=>N - x.2.1) _ (fun x=>⟨[(0,.ref 0 0 N),(1,.clo 192 []),(5,.int .i64 x.1),(6,.int .i64 x.2.1)],[(0,⟨false,false,3,cts x.2.2,0⟩)],2⟩) _ ?_
 rintro⟨i,j,r⟩ hi ih s hs
 simp only at hi
 refine qB qDo rfl rfl hs ?_
 obtain⟨hi1,hi2,hi3,hi4⟩:=hi
 refine wa_ (wa_ (zB (w_ (m_ (h:=w_ (m_ (h:=w_ (le (h:=w_ (b_ (h:=zC (e_ (h:=zA (?_))))))))))))))
 refine c_ (h1:=?_) (h2:=?_)
 rotate_right 1
 focus
  intro c1
  first
  | exact dn c1
  | (
   have d1:=c1;try simp at d1
   refine zX (?_)
   )
 rotate_right 1
 focus
  intro c1
  first
  | exact dn c1
  | (
   have d1:=c1;try simp at d1
   have hw:=zV (i:=j) (by omega);have hwi:=zV (i:=i) (by omega);obtain⟨d,hx,e1,_⟩:=zDm (l:=l) (i:=j) (by omega);have hy:r[j]? = some d:=(by have:=congrArg (fun q=>q[0]?) hi4;simpa [hx] using this);have g2:(cts r)[j]? = some (d.v):=zOx hy;obtain⟨y,hy2⟩:∃y,r[i]? = some y:=⟨r[i]'(by omega),by simp⟩;have g3:(cts r)[i]? = some (y.v):=zOx hy2;have e2:=zI2 hi4
   refine zD (?_)
   )
 all_goals first
 | refine zS ?_
 | (
  refine zA ?_
  refine wa_ (zG (wa_ (zB (w_ (m_ (h:=w_ (m_ (h:=w_ (x_ (h:=w_ (l_ (h:=w_ (al (h:=w0 (s_ (h:=zC (e_ (h:=zA (?_)))))))))))))))))))
  refine wa_ (zB (w_ (m_ (h:=w_ (l_ (h:=w_ (ca (hc:=zZn d) (h:=w_ (u_ (h:=zC (e_ (h:=zA (?_)))))))))))))
  refine c_ (h1:=?_) (h2:=?_)
  rotate_right 1
  focus
   intro c2
   first
   | exact dn c2
   | (
    have d2:=c2;try simp at d2
    refine zD (?_)
    )
  rotate_right 1
  focus
   intro c2
   first
   | exact dn c2
   | (
    have d2:=c2;try simp at d2
    refine wa_ (zB (w_ (m_ (h:=w_ (m_ (h:=w_ (l_ (h:=w_ (x_ (h:=w0 (s_ (h:=zC (e_ (h:=zA (zB (w_ (m_ (h:=w_ (b_ (h:=?_))))))))))))))))))))
    refine w_ (a_ (h:=zC (e_ (h:=?_))))
    )
  all_goals refine zJ ?_
  all_goals first
  | (
   refine zA ?_
   refine zB (w_ (m_ (h:=w_ (b_ (h:=w_ (a_ (h:=zC (e_ (h:=?_)))))))))
   )
  )
 all_goals first
 | (refine(ih ((i+1,j+1,r.set i d)) (⟨by simp;omega,by simp;omega,by simpa using hi3,by simp only;rw[List.drop_set_of_lt (by omega)];exact e2⟩) ?_ _ ?_).trans ?_;(focus (first|omega|(simp;done)|(simp;omega)));(focus (simp[zI,hw,hwi,qC6];done));(focus (rw[e1,zC2,if_pos (by simpa [zD7] using d2)])))
 | (refine(ih ((i,j+1,r)) (⟨by simp;omega,by simp;omega,by simpa using hi3,by simp only;exact e2⟩) ?_ _ ?_).trans ?_;(focus (first|omega|(simp;done)|(simp;omega)));(focus (simp[zI,hw];done));(focus (rw[e1,zC2,if_neg (by simpa [zD7] using d2)])))
 | (apply zM (ex:=(Ext.exit 0)) 2 (some [0,5]);(focus (simp[zI];rfl));(focus (dsimp only;rw[List.drop_eq_nil_of_le (by omega)];simp[zC2])))
theorem zRe {e:List (Nat×V)} {o:List (Nat×Ob)} {n N I:Nat} {ob:Ob} {k:Nat} {a:Int} (ha:a=(I:Int)) (hI:I<N) (ho:zN o 0=some ob) (hs:ob.sz=k):zV0 ⟨e,o,n⟩ k (.ref 0 0 N) a (N:Int)=some (.ref 0 I (N - I)):=by
 subst ha
 unfold zV0
 by_cases h:(I:Int)=0
 ·have:I=0:=by omega
  subst this
  simp
 ·simp only[if_neg h,if_neg (show ¬(I:Int)=(N:Int) by omega),ho,hs,if_true]
  simp
theorem qDi (l:List Ct) (hl:l.length<2000000):oc.call 191 [.lst true 3 (cts l),.clo 192 []]=some (.lst true 3 (cts (l.filter zD7)),[]):=by
  have hix:=zKy l zG1 hl (fun x _=>by simpa [zG1] using zZn x)
  by_cases hp:0≤xD zG1 0 l
  · obtain⟨k,e1,e2,e3,e4⟩:=zKg hp
    rw[if_pos hp,e1] at hix
    simp only[Nat.zero_add] at hix
    obtain⟨D1,D2,D3⟩:=zJ4 (t:=l.drop (k+1)) (i:=k) (r:=l) (by simp;omega)
    have hfilt:l.filter zD7=l.take k++(l.drop (k+1)).filter zD7:=by
      conv=>lhs;rw[←List.take_append_drop k l]
      rw[List.filter_append,e3,e4]
    rw[←hfilt] at D3
    obtain⟨I,R,hD⟩:∃I R,zC2 (l.drop (k+1)) k l=(I,R):=⟨_,_,rfl⟩
    rw[hD] at D1 D2 D3
    simp only at D1 D2 D3
    obtain⟨F,hF⟩:∃F,l.filter zD7=F:=⟨_,rfl⟩
    rw[hF] at D3 ⊢
    have hFl:F.length=I:=by rw[←D3,List.length_take];omega
    subst hFl
    have hw:IntKind.i64.wrap ((k:Int)+1)=((k+1:Nat):Int):=zV (by omega)
    have hdel:=qHj l l.length rfl hl (k,k+1,l) ⟨by simp,by simp;omega,rfl,rfl⟩
    simp only[hD] at hdel
    refine qD rfl qDo rfl rfl rfl (by simp;rfl) (by simp;rfl) ?_
    refine wa_ (zB (w_ (aN (h:=zC (e_ (h:=zA (wa_ (zB (w_ (m_ (h:=w_ (m_ (h:=w_ (ca (hc:=hix) (h:=w_ (a_ (h:=zC (e_ (h:=?_)))))))))))))))))))
    refine zA (wa_ (wa_ (zB (w_ (m_ (h:=w_ (bE (h:=zC (e_ (h:=zA (?_)))))))))))
    refine c_ (h1:=?_) (h2:=?_)
    rotate_right 1
    focus
     intro c1
     first
     | exact dn c1
     | (have d1:=c1;try simp at d1
        refine zD (?_)
        )
    rotate_right 1
    focus
     intro c1
     first
     | exact dn c1
     | (have d1:=c1;try simp at d1
        exfalso;simp at c1;omega
        )
    all_goals first
    | refine zL ?_
    | (refine zA ?_
       refine wa_ (wa_ (zB (w_ (m_ (h:=w_ (b_ (h:=w_ (a_ (h:=zC (e_ (h:=zA (zG (?_)))))))))))))
       refine qF (hdel _ (by simp[zI,hw])) ?_
       refine zT (zA (wa_ (zB (w_ (m_ (h:=w_ (m_ (h:=w_ (?_)))))))))
       refine sl (v:=.ref 0 F.length (l.length - F.length)) (hv:=zRe rfl (by omega) rfl rfl) (h:=?_)
       refine w0 (?_)
       refine cl (ws:=cts F) (hw:=by simp[D3]) (h:=?_)
       refine zC (e_ (h:=zA (wa_ (zB (w_ (m_ (h:=w_ (m_ (h:=w_ (sl (h:=w_ (a_ (h:=zC (e_ (h:=zA (zH (?_)))))))))))))))))
       )
    all_goals (refine qZ (hr:=(zR rfl zO)) (h:=?_);(focus (simp)))
  · have hfil:=zKc hp
    rw[if_neg hp] at hix
    rw[hfil]
    refine qD rfl qDo rfl rfl rfl (by simp;rfl) (by simp;rfl) ?_
    refine wa_ (zB (w_ (aN (h:=zC (e_ (h:=zA (wa_ (zB (w_ (m_ (h:=w_ (m_ (h:=w_ (ca (hc:=hix) (h:=w_ (a_ (h:=zC (e_ (h:=?_)))))))))))))))))))
    refine zA (wa_ (wa_ (zB (w_ (m_ (h:=w_ (bE (h:=zC (e_ (h:=zA (?_)))))))))))
    refine c_ (h1:=?_) (h2:=?_)
    rotate_right 1
    focus
     intro c1
     first
     | exact dn c1
     | (have d1:=c1;try simp at d1
        exfalso;simp at c1
        )
    rotate_right 1
    focus
     intro c1
     first
     | exact dn c1
     | (have d1:=c1;try simp at d1
        refine wa_ (zB (w_ (m_ (h:=w_ (a_ (h:=zC (e_ (h:=zA (zH (?_))))))))))
        )
    all_goals first
    | refine zL ?_
    | (refine zA ?_
       refine wa_ (wa_ (zB (w_ (m_ (h:=w_ (b_ (h:=w_ (a_ (h:=zC (e_ (h:=zA (zG (?_)))))))))))))
       refine qF (hix) ?_
       refine zT (zA (wa_ (zB (w_ (m_ (h:=w_ (m_ (h:=w_ (sl (h:=w0 (cl (h:=zC (e_ (h:=zA (wa_ (zB (?_)))))))))))))))))
       refine w_ (m_ (h:=w_ (m_ (h:=w_ (sl (h:=w_ (a_ (h:=zC (e_ (h:=zA (zH (?_))))))))))))
       )
    all_goals (refine qZ (hr:=(zR rfl zO)) (h:=?_);(focus (simp)))
theorem qBc {S:List Ct} (hS:Srt ltC 0 S.length S) {i:Nat} (h:i<S.length) (hc:i=0∨byC (nth S (i - 1)) (nth S i)≠0) (hn:IntKind.i64.wrap (0+(nth S i).n)=(nth S i).n) :
  (S.take (i+1)).foldl xS []=(S.take i).foldl xS []++[⟨(nth S i).pl,(nth S i).ep,IntKind.i64.wrap (0+(nth S i).n)⟩]:=by
 have hst:S.take (i+1)=S.take i++[nth S i]:=by rw[List.take_add_one,zDo h];rfl
 rw[hst,List.foldl_append,hn]
 rcases Nat.eq_zero_or_pos i with rfl|hi
 ·rfl
 ·obtain⟨init,x,e,e1,e2,hy⟩:=zI4 hS (i - 1) (by omega)
  rw[show i - 1+1=i by omega] at e
  have hle:=hS (i - 1) i (by omega) (by omega) h
  rw[zCs] at hle
  have hb:byC (nth S (i - 1)) (nth S i)≠0:=hc.resolve_left (by omega)
  have hlt:ltC (nth S (i - 1)) (nth S i)=true:=by
   rw[qX]
   unfold byC at hb
   split at hb
   ·rename_i h0;rw[cmpI_nil] at h0;have:¬(nth S (i - 1)).ep=(nth S i).ep:=fun e=>hb (cmpI_nil.2 e);omega
   ·rename_i h0;rw[cmpI_nil] at h0;omega
  rw[e]
  show xS (init++[x]) (nth S i)=_
  rw[qX] at hlt
  rw[zCl (by rw[zCs];omega) (fun y h1=>by have:=hy y h1;rw[qX] at this ⊢;omega),if_pos (by rw[qX];omega)]
  simp
theorem qBm {S:List Ct} (hS:Srt ltC 0 S.length S) {i:Nat} (h:i<S.length) (hi:0<i) (hc:byC (nth S (i - 1)) (nth S i)=0) :
  ∃init x,(S.take i).foldl xS []=init++[x]∧(S.take (i+1)).foldl xS []=init++[⟨x.pl,x.ep,IntKind.i64.wrap (x.n+(nth S i).n)⟩]:=by
 have hst:S.take (i+1)=S.take i++[nth S i]:=by rw[List.take_add_one,zDo h];rfl
 obtain⟨init,x,e,e1,e2,hy⟩:=zI4 hS (i - 1) (by omega)
 rw[show i - 1+1=i by omega] at e
 have hk:(nth S (i - 1)).pl=(nth S i).pl∧(nth S (i - 1)).ep=(nth S i).ep:=by
  unfold byC at hc
  split at hc
  ·rename_i h0;rw[cmpI_nil] at h0 hc;exact⟨h0,hc⟩
  ·rename_i h0;exact absurd hc h0
 refine⟨init,x,e,?_⟩
 rw[hst,List.foldl_append,e]
 show xS (init++[x]) (nth S i)=_
 rw[zCl (by rw[zCs];omega) (fun y h1=>by have:=hy y h1;rw[qX] at this ⊢;omega),if_neg (by rw[qX];omega)]
 rfl
theorem zOi {S:List Ct}:∀{acc:List Ct},(S.foldl xS acc).length≤acc.length+S.length:=by
 have put1:∀(l:List Ct) (c:Ct),(xS l c).length≤l.length+1:=by
  intro l c
  induction l with
  | nil=>simp[xS]
  | cons x r ih =>
   rw[yV]
   split
   ·simpa using ih
   ·split<;>simp
 induction S with
 | nil=>intro acc;simp
 | cons c l ih =>
  intro acc
  have h1:=ih (acc:=xS acc c)
  have h2:=put1 acc c
  simp only[List.foldl_cons,List.length_cons] at *
  omega
theorem qJv (S:List Ct) (hS:Srt ltC 0 S.length S) (hl:S.length<2000000) (hn:∀i,i<S.length→IntKind.i64.wrap (0+(nth S i).n)=(nth S i).n):∀x:Nat×(List Ct),(x.1≤S.length∧(S.take x.1).foldl xS []=x.2)→∀s,zI 2 (some [6,7,17,18,19]) s=⟨[(6,.ref 2 0 S.length),(7,.ref 3 0 x.2.length),(17,.ref 2 0 S.length),(18,.int .i64 S.length),(19,.int .i64 x.1)],[(2,⟨false,false,3,cts S,0⟩),(3,⟨false,false,3,cts x.2,0⟩)],4⟩ →
 oc.loop 138 4 s=some (.exit 0,⟨[(7,.ref 2 0 (S.foldl xS []).length)],[(2,⟨false,false,3,cts (S.foldl xS []),0⟩)],3⟩):=by
 refine zW (σ:=Nat×(List Ct)) (fun x=>S.length - x.1) _ (fun x=>⟨[(6,.ref 2 0 S.length),(7,.ref 3 0 x.2.length),(17,.ref 2 0 S.length),(18,.int .i64 S.length),(19,.int .i64 x.1)],[(2,⟨false,false,3,cts S,0⟩),(3,⟨false,false,3,cts x.2,0⟩)],4⟩) _ ?_
 rintro⟨i,out⟩ hi ih s hs
 simp only at hi
 refine qB qGk rfl rfl hs ?_
 obtain⟨hi1,hi2⟩:=hi
 have hol:out.length≤i:=by have:=zOi (S:=S.take i) (acc:=[]);rw[hi2] at this;simp at this;omega
 refine wa_ (zB (w_ (b_ (h:=zC (e_ (h:=zA (wa_ (?_))))))))
 refine c_ (h1:=?_) (h2:=?_)
 rotate_right 1
 focus
  intro c1
  first
  | exact dn c1
  | (
   have d1:=c1;try simp at d1
   refine zX (?_)
   )
 rotate_right 1
 focus
  intro c1
  first
  | exact dn c1
  | (
   have d1:=c1;try simp at d1
   have hi:i<S.length:=(by simp at c1;omega);have hw:=zV (i:=i) (by omega);have g1:(cts S)[i]? = some (nth S i).v:=jO hi;have g2:(cts S)[i - 1]? = some (nth S (i - 1)).v:=jO (by omega)
   refine zD (?_)
   )
 all_goals first
 | refine zS ?_
 | (
  refine zA ?_
  refine wa_ (zG (wa_ (zB (w_ (m_ (h:=w_ (x_ (h:=w_ (l_ (h:=w_ (al (h:=w_ (a_ (h:=w0 (s_ (h:=zC (e_ (h:=zA (?_)))))))))))))))))))
  refine wa_ (wa_ (qE (y_ (m_ (h:=ax_ (h:=y_ (bE (h:=ax_ (h:=y_ (m_ (h:=ax_ (h:=?_))))))))))))
  refine gw_ (h1:=?_) (h2:=?_)
  rotate_right 1
  focus
   intro c2
   first
   | exact dn c2
   | (
    have d2:=c2;try simp at d2
    refine gd_ (h:=gd_ (h:=gd_ (h:=gd_ (h:=gd_ (h:=gd_ (h:=gd_ (h:=gd_ (h:=?_))))))))
    )
  rotate_right 1
  focus
   intro c2
   first
   | exact dn c2
   | (
    have d2:=c2;try simp at d2
    refine g_ (h:=y_ (m_ (h:=ax_ (h:=g_ (h:=y_ (m_ (h:=ax_ (h:=g_ (h:=y_ (?_))))))))))
    refine b_ (hv:=jT (c:=i - 1) (by omega) (by omega)) (h:=?_)
    refine ax_ (h:=g_ (h:=y_ (x_ (h:=ax_ (h:=g_ (h:=y_ (l_ (h:=ax_ (h:=g_ (h:=y_ (l_ (h:=ax_ (h:=g_ (h:=y_ (ca (hc:=zQg (nth S (i - 1)) (nth S i)) (h:=ax_ (h:=g_ (h:=y_ (bE (h:=ax_ (h:=?_)))))))))))))))))))))
    )
  all_goals
   refine y_ (pk (h:=ax_ (h:=zC (ed (h:=?_)))))
  all_goals first
  | (
   refine zA ?_
   refine c_ (h1:=?_) (h2:=?_)
   rotate_right 1
   focus
    intro c3
    first
    | exact dn c3
    | (
     have d3:=c3;try simp at d3
     have e3:0<i∧byC (nth S (i - 1)) (nth S i)=0:=(by simp at c2 c3;omega);obtain⟨init,x,ho,hold⟩:=qBm hS hi e3.1 e3.2;obtain rfl:out=init++[x]:=hi2.symm.trans ho;have hil:init.length<2000000:=(by rw[List.length_append] at hol;omega);obtain⟨L,hL⟩:∃L,L=init.length:=⟨_,rfl⟩;have g3:(cts (init++[x]))[L]? = some (V.agg [.int .i64 x.pl,.int .i64 x.ep,.int .i64 x.n]):=(by subst hL;simp[cts,Ct.v]);have g4:(init++[x]).set L (⟨x.pl,x.ep,IntKind.i64.wrap (x.n+(nth S i).n)⟩:Ct)=init++[⟨x.pl,x.ep,IntKind.i64.wrap (x.n+(nth S i).n)⟩]:=(by subst hL;simp)
     refine zD (?_)
     )
   rotate_right 1
   focus
    intro c3
    first
    | exact dn c3
    | (
     have d3:=c3;try simp at d3
     have e3:i=0∨byC (nth S (i - 1)) (nth S i)≠0:=(by first|(left;simp at c2;omega)|(right;simpa using c3));have hnew:=qBc hS hi e3 (hn i hi);rw[hi2] at hnew;obtain⟨L,hL⟩:∃L,L=out.length:=⟨_,rfl⟩;have g3:(cts (out++[⟨(nth S i).pl,(nth S i).ep,0⟩]))[L]? = some (V.agg [.int .i64 (nth S i).pl,.int .i64 (nth S i).ep,.int .i64 0]):=(by subst hL;simp[cts,Ct.v]);have g4:(out++[(⟨(nth S i).pl,(nth S i).ep,0⟩:Ct)]).set L (⟨(nth S i).pl,(nth S i).ep,(nth S i).n⟩:Ct)=out++[⟨(nth S i).pl,(nth S i).ep,(nth S i).n⟩]:=(by subst hL;simp);have hn0:=hn i hi;have hn1:IntKind.i64.wrap (nth S i).n=(nth S i).n:=(by simpa using hn0)
     refine zB (w_ (m_ (h:=w_ (f_ (h:=w_ (l_ (h:=w_ (f_ (h:=w_ (l_ (h:=w_ (bd (h:=w_ (bs (h:=w_ (ap (h:=w_ (a_ (h:=zC (e_ (h:=?_)))))))))))))))))))))
     )
   )
  all_goals first
  | (
   refine zA ?_
   refine qE (y_ (m_ (h:=ax_ (h:=y_ (m_ (h:=ax_ (h:=y_ (le (h:=ax_ (h:=y_ (?_)))))))))))
   refine b_ (hv:=jT (c:=L) (by simp;omega) (by omega)) (h:=?_)
   refine ax_ (h:=y_ (x_ (h:=ax_ (h:=y_ (f_ (h:=ax_ (h:=y_ (l_ (h:=ax_ (h:=y_ (f_ (h:=ax_ (h:=y_ (l_ (h:=ax_ (h:=y_ (b_ (h:=ax_ (h:=y_ (x_ (h:=ax_ (h:=y_ (f_ (h:=ax_ (h:=y0 (s_ (h:=ax_ (h:=zC (ed (h:=?_))))))))))))))))))))))))))))))
   )
  all_goals refine zJ ?_
  all_goals first
  | (
   refine zA ?_
   refine zB (w_ (b_ (h:=w_ (m_ (h:=zC (e_ (h:=?_)))))))
   )
  )
 all_goals first
 | (refine(ih ((i+1,out++[⟨(nth S i).pl,(nth S i).ep,IntKind.i64.wrap (0+(nth S i).n)⟩])) (⟨by simp only;omega,by simp only;rw[hnew]⟩) ?_ _ ?_).trans ?_;(focus (first|omega|(simp;done)|(simp;omega)));(focus (simp[zI,hw,g4,hn1];done));(focus (rfl)))
 | (refine(ih ((i+1,init++[⟨x.pl,x.ep,IntKind.i64.wrap (x.n+(nth S i).n)⟩])) (⟨by simp only;omega,by simp only;rw[hold]⟩) ?_ _ ?_).trans ?_;(focus (first|omega|(simp;done)|(simp;omega)));(focus (simp[zI,hw,g4];done));(focus (rfl)))
 | (apply zM (ex:=(Ext.exit 0)) 2 (some [7]);(focus (simp[zI];rfl));(focus (rw[←hi2,List.take_of_length_le (by simp at c1;omega)])))
end Go.Proofs.YtbcgenkegnmkhaaGreat.Ev
namespace Go.Proofs.YtbcgenkegnmkhaaGreat.Ev
open Go
set_option maxRecDepth 100000
set_option linter.unusedSimpArgs false
set_option linter.unusedVariables false
set_option maxHeartbeats 2000000
def okW (c:Ct):Bool:=inI c.n (-1000000000000) 1000000000000
def zV3 (c:Ct):Bool:=!okW c
theorem zSm (l:List (Ct))  (p:Ct→Bool) (hl:l.length<2000000) (hc:∀x∈l,oc.call 194 [x.v]=some (.bool (p x),[])):∀i:Nat,i≤l.length→∀s,zI 2 (some [0,1,7,8]) s=⟨[(0,.lst false 0 (cts l)),(1,.clo 194 []),(7,.int .i64 l.length),(8,.int .i64 i)],[],2⟩ →
 oc.loop 233 2 s=some (if 0≤xD p i (l.drop i) then(.ret,⟨[(4,.int .i64 (xD p i (l.drop i)))],[],2⟩) else(.exit 0,⟨[],[],2⟩)):=by
 refine zW (fun i=>l.length - i) _ (fun i=>⟨[(0,.lst false 0 (cts l)),(1,.clo 194 []),(7,.int .i64 l.length),(8,.int .i64 i)],[],2⟩) _ ?_
 intro i hi ih s hs
 refine qB zWf rfl rfl hs ?_
 refine wa_ (zB (w_ (b_ (h:=zC (e_ (h:=zA (wa_ (?_))))))))
 refine c_ (h1:=?_) (h2:=?_)
 rotate_right 1
 focus
  intro c1
  first
  | exact dn c1
  | (
   have d1:=c1;try simp at d1
   refine zX (?_)
   )
 rotate_right 1
 focus
  intro c1
  first
  | exact dn c1
  | (
   have d1:=c1;try simp at d1
   have hw:=zV (i:=i) (by omega);obtain⟨x,hx,e1,g1⟩:=zDm (l:=l) (i:=i) (by omega);have hq:=hc x (List.mem_of_getElem? hx)
   refine zD (?_)
   )
 all_goals first
 | refine zS ?_
 | (
  refine zA ?_
  refine wa_ (zG (wa_ (zB (w_ (m_ (h:=w_ (a_ (h:=zC (e_ (h:=zA (wa_ (zB (w_ (m_ (h:=w_ (m_ (h:=?_)))))))))))))))))
  refine w_ (m_ (h:=w_ (x_ (h:=w_ (l_ (h:=w_ (?_)))))))
  refine zFx rfl rfl (by rw[zCp];rfl) rfl (by rw[xW];rfl) (by simp[xW,mdT];rfl) (by first|rfl|simp[*]) hq rfl (by simp;rfl) (by simp[xW,mdT]) (by simp;rfl) (by simp;rfl) ?_
  refine zC (e_ (h:=zA (?_)))
  refine c_ (h1:=?_) (h2:=?_)
  rotate_right 1
  focus
   intro c2
   first
   | exact dn c2
   | (
    have d2:=c2;try simp at d2
    refine zD (?_)
    )
  rotate_right 1
  focus
   intro c2
   first
   | exact dn c2
   | (
    have d2:=c2;try simp at d2
    refine wa_ (zB (w_ (m_ (h:=w_ (a_ (h:=zC (e_ (h:=zA (zH (?_))))))))))
    )
  all_goals first|refine zJ ?_|refine zY ?_
  all_goals first
  | refine zL ?_
  | (
   refine zA ?_
   refine zB (w_ (b_ (h:=w_ (m_ (h:=zC (e_ (h:=?_)))))))
   )
  )
 all_goals first
 | (refine(ih (i+1) (by omega) ?_ _ ?_).trans ?_;(focus (first|omega|(simp;done)|(simp;omega)));(focus (simp[zI,hw];done));(focus (rw[e1];simp only[xD,if_neg (show ¬p x=true by simp[d2])])))
 | (apply zM (ex:=Ext.ret) 2 (some [4]);(focus (simp[zI];rfl));(focus (rw[e1];simp[xD,d2])))
 | (apply zM (ex:=(Ext.exit 0)) 2 (some [4]);(focus (simp[zI];rfl));(focus (rw[List.drop_eq_nil_of_le (by omega)];simp[xD])))
theorem zSd (l:List (Ct))  (p:Ct→Bool) (hl:l.length<2000000) (hc:∀x∈l,oc.call 194 [x.v]=some (.bool (p x),[])):oc.call 233 [.lst false 0 (cts l),.clo 194 []]=some (.int .i64 (if 0≤xD p 0 l then xD p 0 l else -1),[]):=by
 refine qD rfl zWf rfl rfl rfl (by simp;rfl) (by simp;rfl) ?_
 refine wa_ (zB (w_ (a_ (h:=zC (e_ (h:=zA (wa_ (wa_ (zB (w_ (m_ (h:=w_ (le (h:=w_ (m_ (h:=zC (e_ (h:=?_))))))))))))))))))
 refine zA (zG (?_))
 refine qR (zSm l  p hl hc 0 (by omega) _ (by simp[zI])) ?_ ?_
 rotate_right 1
 focus
  intro c1
  skip
 rotate_right 1
 focus
  intro c1
  skip
 all_goals first|refine zY ?_|refine zT ?_
 all_goals first
 | refine zL ?_
 | (
  refine zA ?_
  refine wa_ (zB (w_ (a_ (h:=zC (e_ (h:=zA (zH (?_))))))))
  )
 all_goals (refine qZ (hr:=(zR rfl zO)) (h:=?_);(focus (clear hc;first|(simp_all;done)|(simp_all<;>omega))))
theorem zQ7 (l:List (Ct))  (p:Ct→Bool) (hl:l.length<2000000) (hc:∀x∈l,oc.call 194 [x.v]=some (.bool (p x),[])):oc.call 193 [.lst false 0 (cts l),.clo 194 []]=some (.bool (l.any p),[]):=by
 refine qD rfl cd193 rfl rfl rfl (by simp;rfl) (by simp;rfl) ?_
 refine wa_ (zB (w_ (a_ (h:=zC (e_ (h:=zA (wa_ (zB (w_ (m_ (h:=w_ (m_ (h:=w_ (ca (hc:=zSd l  p hl hc) (h:=w_ (b_ (h:=w_ (a_ (h:=?_)))))))))))))))))))
 refine zC (e_ (h:=zA (zH (?_))))
 all_goals (refine qZ (hr:=(zR rfl zO)) (h:=?_);(focus (clear hc;rw[←zKa (i:=0)];simp;grind)))
theorem qKe (d:Ct):oc.call 194 [d.v]=some (.bool (zV3 d),[]):=by
 refine qD rfl cd194 rfl rfl rfl (by simp;rfl) (by simp;rfl) ?_
 refine wa_ (zB (w_ (bx (h:=w_ (a_ (h:=zC (e_ (h:=zA (wa_ (zB (w_ (f_ (h:=w_ (l_ (h:=w_ (ca (hc:=zDh _) (h:=w_ (u_ (h:=?_)))))))))))))))))))
 refine w_ (a_ (h:=zC (e_ (h:=zA (zH (?_))))))
 all_goals (refine qZ (hr:=(zR rfl zO)) (h:=?_);(focus (simp[zV3,okW])))
def qA3 (t:List Ct):List Ct×Int:=if t.any zV3=true then([],8) else if 200<(t.filter zD7).length then([],2) else(t.filter zD7,0)
theorem zRp:∀(t:List Ct),(t.filter zD7).any zV3=t.any zV3
 | []=>rfl
 | c::t=>by
  have ih:=zRp t
  rw[List.filter_cons,List.any_cons]
  by_cases h:zD7 c=true
  ·rw[if_pos h,List.any_cons,ih]
  ·rw[if_neg h,ih]
   have h0:c.n=0:=by simpa [zD7] using h
   have:zV3 c=false:=by simp[zV3,okW,h0,inI]
   rw[this];rfl
theorem qAm {α:Type} [Inhabited α] {l:List α} {i:Nat} (h:i<l.length):nth l i∈l:=List.mem_of_getElem? (zDo h)
theorem qGr (l m:List Ct) (hl:l.length<500000) (hm:m.length<500000) (hs1:l.Pairwise (fun x y=>ltC x y=true)) (hn:∀x∈l++m,IntKind.i64.wrap (0+x.n)=x.n):oc.call 138 [.lst false 0 (cts l),.lst false 0 (cts m)]=some (.tup [.lst true 3 (cts (qA3 (m.foldl xS l)).1),.int .i64 (qA3 (m.foldl xS l)).2],[]):=by
 refine qD rfl qGk rfl rfl rfl (by simp;rfl) (by simp;rfl) ?_
 have hlm:(l++m).length<1000000:=by simp;omega
 have hpp:=(zOj zMu (l++m)).1
 have hse:=qKj (m:=m) hs1
 obtain⟨T,hT⟩:∃T,(stb ltC (l++m)).foldl xS []=T:=⟨_,rfl⟩
 rw[hT] at hse
 have hTl:T.length<1000000:=by have:=zOi (S:=stb ltC (l++m)) (acc:=[]);rw[hT] at this;have:=hpp.length_eq;simp at *;omega
 have hFl:(T.filter zD7).length<1000000:=Nat.lt_of_le_of_lt (List.length_filter_le _ _) hTl
 have hrun:=qJv (stb ltC (l++m)) (by have:=(zOj zMu (l++m)).2;rwa [←hpp.length_eq] at this) (by rw[hpp.length_eq];omega) (fun i hi=>hn _ (hpp.mem_iff.1 (qAm hi))) (0,[]) ⟨by simp,by simp⟩
 rw[hT] at hrun
 have hpl:(stb ltC (l++m)).length=l.length+m.length:=by rw[hpp.length_eq];simp
 refine wa_ (zB (w_ (aN (h:=w_ (a_ (h:=zC (e_ (h:=zA (wa_ (zB (w_ (m_ (h:=w_ (m_ (h:=w_ (bs (h:=w_ (ca (hc:=qIt [l,m] (by simp) (by simp[yA];omega) (by simp)) (h:=?_)))))))))))))))))))
 refine w_ (bs (h:=w_ (a_ (h:=w_ (a_ (h:=zC (e_ (h:=zA (wa_ (zB (w_ (m_ (h:=w_ (?_))))))))))))))
 refine cI (hc:=qJk (l++m) (by omega)) (hal:=kE hpp.length_eq.symm) (h:=?_)
 refine zC (e_ (h:=zA (wa_ (wa_ (zB (w_ (m_ (h:=w_ (le (h:=w_ (m_ (h:=zC (e_ (h:=zA (zG (?_))))))))))))))))
 refine qF (hrun _ (by simp[zI,hpl])) ?_
 refine zT (zA (wa_ (zB (w_ (m_ (h:=w_ (?_)))))))
 refine caT (hc:=qDi T (by omega)) (h:=?_)
 refine w_ (a_ (h:=zC (e_ (h:=zA (wa_ (zG (wa_ (zB (w_ (m_ (h:=w_ (ca (hc:=zQ7 (T.filter zD7) zV3 (by omega) (fun x _=>qKe x)) (h:=w_ (a_ (h:=zC (e_ (h:=zA (?_))))))))))))))))))
 refine c_ (h1:=?_) (h2:=?_)
 rotate_right 1
 focus
  intro c1
  first
  | exact dn c1
  | (
   have d1:=c1;try simp at d1
   refine wa_ (zB (w_ (m_ (h:=w_ (le (h:=w_ (b_ (h:=w_ (a_ (h:=zC (e_ (h:=zA (?_)))))))))))))
   refine c_ (h1:=?_) (h2:=?_)
   rotate_right 1
   focus
    intro c2
    first
    | exact dn c2
    | (
     have d2:=c2;try simp at d2
     refine zD (?_)
     )
   rotate_right 1
   focus
    intro c2
    first
    | exact dn c2
    | (
     have d2:=c2;try simp at d2
     refine wa_ (zB (w_ (aN (h:=w_ (a_ (h:=zC (e_ (h:=zA (zH (?_))))))))))
     )
   )
 rotate_right 1
 focus
  intro c1
  first
  | exact dn c1
  | (
   have d1:=c1;try simp at d1
   refine wa_ (zB (w_ (aN (h:=w_ (a_ (h:=zC (e_ (h:=zA (zH (?_))))))))))
   )
 all_goals first|refine zJ ?_|refine zY ?_
 all_goals first
 | refine zL ?_
 | (
  refine zA ?_
  refine wa_ (zB (w_ (m_ (h:=w_ (a_ (h:=w_ (a_ (h:=zC (e_ (h:=zA (zH (?_))))))))))))
  )
 all_goals (refine qZ (hr:=(zR rfl (zR rfl zO))) (h:=?_);(focus (rw[hse];unfold qA3;rw[←zRp];first|(simp[*];done)|(rw[if_neg (by simp[*]),if_pos (by first|assumption|omega|(simp at *;omega))];simp;done)|(rw[if_neg (by simp[*]),if_neg (by first|assumption|omega|(simp at *;omega))];simp;done))))
theorem zVe (x y:Ct):zGn x y=ltC x y:=by
 have h:=qX (x:=x) (y:=y)
 unfold zGn
 by_cases hp:x.pl=y.pl
 ·rw[if_pos hp]
  cases hc:ltC x y
  ·rw[zCs] at hc;simp;omega
  ·rw[qX] at hc;simp;omega
 ·rw[if_neg hp]
  cases hc:ltC x y
  ·rw[zCs] at hc;simp;omega
  ·rw[qX] at hc;simp;omega
def zV5 (f:Fr):Ct:=⟨IntKind.i64.wrap (2 * f.node),f.ep,1⟩
def zR8 (l:List Fr):List Ct:=(l.filter fun f=>decide (f.kind=1)).map zV5
def zNz (F:Hd→List Int) (w:Wk):Nat→List Nd→List Ct
 | _,[]=>[]
 | i,d::r=>(if d.op=1∧w.ep≠-1 then [⟨2 * (i:Int)+1,w.ep,1⟩] else if zL4 d=false∧d.op≠12 then((w.nodes[i]?).elim [] F).map fun e=>⟨2 * (i:Int)+1,e,1⟩ else [])++zNz F w (i+1) r
def qDr (F:Hd→List Int) (pl:List Nd) (w:Wk):List Ct:=w.inbox.map zV5++zNz F w 0 pl
def zEf (F:Hd→List Int) (c:Cl):List Ct:=zR8 c.links.flatten++(c.workers.map (qDr F c.plan)).flatten
theorem zJe {f:Fr} {r:List Fr}:zR8 (f::r)=(if f.kind=1 then [zV5 f] else [])++zR8 r:=by
 unfold zR8;by_cases h:f.kind=1<;>simp[h]
theorem l_tc3 (c:Cl) (L:List Fr) (hl:L.length<2000000):∀x:Nat×(List Ct),(x.1≤L.length∧x.2.length≤x.1)→∀s,zI 1 (some [0,4,21,22,23]) s=⟨[(0,.vptr (c.v false)),(4,.ref 1 0 x.2.length),(21,.ref 2 0 L.length),(22,.int .i64 L.length),(23,.int .i64 x.1)],[(1,⟨false,false,3,cts x.2,0⟩),(2,⟨false,false,6,frs false L,0⟩)],3⟩ →
 oc.loop 68 3 s=some (.exit 0,⟨[(0,.vptr (c.v false)),(4,.ref 1 0 (x.2++zR8 (L.drop x.1)).length)],[(1,⟨false,false,3,cts (x.2++zR8 (L.drop x.1)),0⟩)],2⟩):=by
 refine zW (σ:=Nat×(List Ct)) (fun x=>L.length - x.1) _ (fun x=>⟨[(0,.vptr (c.v false)),(4,.ref 1 0 x.2.length),(21,.ref 2 0 L.length),(22,.int .i64 L.length),(23,.int .i64 x.1)],[(1,⟨false,false,3,cts x.2,0⟩),(2,⟨false,false,6,frs false L,0⟩)],3⟩) _ ?_
 rintro⟨i,m⟩ hi ih s hs
 simp only at hi
 refine qB qDp rfl rfl hs ?_
 refine wa_ (zB (w_ (b_ (h:=zC (e_ (h:=zA (wa_ (?_))))))))
 refine c_ (h1:=?_) (h2:=?_)
 rotate_right 1
 focus
  intro c1
  first
  | exact dn c1
  | (
   have d1:=c1;try simp at d1
   refine zX (?_)
   )
 rotate_right 1
 focus
  intro c1
  first
  | exact dn c1
  | (
   have d1:=c1;try simp at d1
   have hw:=zV (i:=i) (by omega);obtain⟨f,hx,e1,g1⟩:=zI7 (t:=false) (l:=L) (i:=i) (by omega)
   refine zD (?_)
   )
 all_goals first
 | refine zS ?_
 | (
  refine zA ?_
  refine wa_ (zG (wa_ (zB (w_ (x_ (h:=w_ (l_ (h:=w_ (al (h:=w0 (s_ (h:=zC (e_ (h:=zA (wa_ (zB (?_)))))))))))))))))
  refine w_ (f_ (h:=w_ (l_ (h:=w_ (bE (h:=zC (e_ (h:=zA (?_)))))))))
  refine c_ (h1:=?_) (h2:=?_)
  rotate_right 1
  focus
   intro c2
   first
   | exact dn c2
   | (
    have d2:=c2;try simp at d2
    refine zD (?_)
    )
  rotate_right 1
  focus
   intro c2
   first
   | exact dn c2
   | (
    have d2:=c2;try simp at d2
    refine zB (w_ (m_ (h:=w_ (f_ (h:=w_ (l_ (h:=w_ (b_ (h:=w_ (f_ (h:=w_ (l_ (h:=w_ (bd (h:=w_ (bs (h:=w_ (ap (h:=w_ (a_ (h:=zC (e_ (h:=?_)))))))))))))))))))))))
    )
  all_goals refine zJ ?_
  all_goals first
  | (
   refine zA ?_
   refine zB (w_ (b_ (h:=w_ (m_ (h:=zC (e_ (h:=?_)))))))
   )
  )
 all_goals first
 | (refine(ih ((i+1,m++[zV5 f])) (by simp;omega) ?_ _ ?_).trans ?_;(focus (first|omega|(simp;done)|(simp;omega)));(focus (simp[zI,hw,zV5];done));(focus (simp only[e1,zJe];simp[*])))
 | (refine(ih ((i+1,m)) (by simp;omega) ?_ _ ?_).trans ?_;(focus (first|omega|(simp;done)|(simp;omega)));(focus (simp[zI,hw];done));(focus (simp only[e1,zJe];simp[*])))
 | (apply zM (ex:=(Ext.exit 0)) 1 (some [0,4]);(focus (simp[zI];rfl));(focus (rw[List.drop_eq_nil_of_le (by omega)];simp[zR8])))
theorem qKq (c:Cl) (w:Wk) (j:Nat) (hl:w.inbox.length<2000000):∀x:Nat×(List Ct),(x.1≤w.inbox.length∧x.2.length<40000000+x.1)→∀s,zI 1 (some [0,4,8,43,44,45,50,51,52]) s=⟨[(0,.vptr (c.v false)),(4,.ref 1 0 x.2.length),(8,.ptr 2 0 []),(43,.lst false 0 (wks false c.workers)),(44,.int .i64 c.workers.length),(45,.int .i64 j),(50,.lst false 0 (frs false w.inbox)),(51,.int .i64 w.inbox.length),(52,.int .i64 x.1)],[(1,⟨false,false,3,cts x.2,0⟩),(2,⟨true,false,7,[w.v false],0⟩)],3⟩ →
 oc.loop 68 12 s=some (.exit 4,⟨[(0,.vptr (c.v false)),(4,.ref 1 0 (x.2++(w.inbox.drop x.1).map zV5).length),(8,.ptr 2 0 []),(43,.lst false 0 (wks false c.workers)),(44,.int .i64 c.workers.length),(45,.int .i64 j)],[(1,⟨false,false,3,cts (x.2++(w.inbox.drop x.1).map zV5),0⟩),(2,⟨true,false,7,[w.v false],0⟩)],3⟩):=by
 refine zW (σ:=Nat×(List Ct)) (fun x=>w.inbox.length - x.1) _ (fun x=>⟨[(0,.vptr (c.v false)),(4,.ref 1 0 x.2.length),(8,.ptr 2 0 []),(43,.lst false 0 (wks false c.workers)),(44,.int .i64 c.workers.length),(45,.int .i64 j),(50,.lst false 0 (frs false w.inbox)),(51,.int .i64 w.inbox.length),(52,.int .i64 x.1)],[(1,⟨false,false,3,cts x.2,0⟩),(2,⟨true,false,7,[w.v false],0⟩)],3⟩) _ ?_
 rintro⟨i,m⟩ hi ih s hs
 simp only at hi
 refine qB qDp rfl rfl hs ?_
 refine wa_ (zB (w_ (b_ (h:=zC (e_ (h:=zA (wa_ (?_))))))))
 refine c_ (h1:=?_) (h2:=?_)
 rotate_right 1
 focus
  intro c1
  first
  | exact dn c1
  | (
   have d1:=c1;try simp at d1
   refine zX (?_)
   )
 rotate_right 1
 focus
  intro c1
  first
  | exact dn c1
  | (
   have d1:=c1;try simp at d1
   have hw:=zV (i:=i) (by omega);obtain⟨f,hx,e1,g1⟩:=zI7 (t:=false) (l:=w.inbox) (i:=i) (by omega)
   refine zD (?_)
   )
 all_goals first
 | refine zS ?_
 | (
  refine zA ?_
  refine wa_ (zG (wa_ (zB (w_ (x_ (h:=w_ (l_ (h:=w_ (al (h:=w0 (s_ (h:=zC (e_ (h:=zA (zB (w_ (m_ (h:=?_))))))))))))))))))
  refine w_ (f_ (h:=w_ (l_ (h:=w_ (b_ (h:=w_ (f_ (h:=w_ (l_ (h:=w_ (bd (h:=w_ (bs (h:=w_ (ap (h:=w_ (a_ (h:=zC (e_ (h:=zJ (zA (?_))))))))))))))))))))))
  refine zB (w_ (b_ (h:=w_ (m_ (h:=zC (e_ (h:=?_)))))))
  )
 all_goals first
 | (refine(ih ((i+1,m++[zV5 f])) (by simp;omega) ?_ _ ?_).trans ?_;(focus (first|omega|(simp;done)|(simp;omega)));(focus (simp[zI,hw,zV5];done));(focus (simp only[e1];simp)))
 | (apply zM (ex:=(Ext.exit 4)) 1 (some [0,4,8,43,44,45]);(focus (simp[zI];rfl));(focus (rw[List.drop_eq_nil_of_le (by omega)];simp)))
theorem qKi (c:Cl) (w:Wk) (j a:Nat) (E:List Int) (hl:E.length<2000000) (ha:a<2000000):∀x:Nat×(List Ct),(x.1≤E.length∧x.2.length<100000000+x.1)→∀s,zI 1 (some [0,4,8,13,43,44,45,69,70,71,109,110,111]) s=⟨[(0,.vptr (c.v false)),(4,.ref 1 0 x.2.length),(8,.ptr 2 0 []),(13,.int .i64 (2 * (a:Int)+1)),(43,.lst false 0 (wks false c.workers)),(44,.int .i64 c.workers.length),(45,.int .i64 j),(69,.lst false 0 (nds false 0 c.plan)),(70,.int .i64 c.plan.length),(71,.int .i64 a),(109,.ref 3 0 E.length),(110,.int .i64 E.length),(111,.int .i64 x.1)],[(1,⟨false,false,3,cts x.2,0⟩),(2,⟨true,false,7,[w.v false],0⟩),(3,⟨false,false,1,ints E,0⟩)],4⟩ →
 oc.loop 68 24 s=some (.exit 9,⟨[(0,.vptr (c.v false)),(4,.ref 1 0 (x.2++(E.drop x.1).map fun e=>(⟨2 * (a:Int)+1,e,1⟩:Ct)).length),(8,.ptr 2 0 []),(43,.lst false 0 (wks false c.workers)),(44,.int .i64 c.workers.length),(45,.int .i64 j),(69,.lst false 0 (nds false 0 c.plan)),(70,.int .i64 c.plan.length),(71,.int .i64 a)],[(1,⟨false,false,3,cts (x.2++(E.drop x.1).map fun e=>(⟨2 * (a:Int)+1,e,1⟩:Ct)),0⟩),(2,⟨true,false,7,[w.v false],0⟩)],3⟩):=by
 refine zW (σ:=Nat×(List Ct)) (fun x=>E.length - x.1) _ (fun x=>⟨[(0,.vptr (c.v false)),(4,.ref 1 0 x.2.length),(8,.ptr 2 0 []),(13,.int .i64 (2 * (a:Int)+1)),(43,.lst false 0 (wks false c.workers)),(44,.int .i64 c.workers.length),(45,.int .i64 j),(69,.lst false 0 (nds false 0 c.plan)),(70,.int .i64 c.plan.length),(71,.int .i64 a),(109,.ref 3 0 E.length),(110,.int .i64 E.length),(111,.int .i64 x.1)],[(1,⟨false,false,3,cts x.2,0⟩),(2,⟨true,false,7,[w.v false],0⟩),(3,⟨false,false,1,ints E,0⟩)],4⟩) _ ?_
 rintro⟨i,m⟩ hi ih s hs
 simp only at hi
 refine qB qDp rfl rfl hs ?_
 refine wa_ (zB (w_ (b_ (h:=zC (e_ (h:=zA (wa_ (?_))))))))
 refine c_ (h1:=?_) (h2:=?_)
 rotate_right 1
 focus
  intro c1
  first
  | exact dn c1
  | (
   have d1:=c1;try simp at d1
   refine zX (?_)
   )
 rotate_right 1
 focus
  intro c1
  first
  | exact dn c1
  | (
   have d1:=c1;try simp at d1
   have hw:=zV (i:=i) (by omega);obtain⟨x,hx,e1,g1⟩:=kU (l:=E) (i:=i) (by omega);simp at g1
   refine zD (?_)
   )
 all_goals first
 | refine zS ?_
 | (
  refine zA ?_
  refine wa_ (zG (wa_ (zB (w_ (x_ (h:=w_ (l_ (h:=w_ (a_ (h:=zC (e_ (h:=zA (zB (w_ (m_ (h:=w_ (m_ (h:=?_))))))))))))))))))
  refine w_ (m_ (h:=w_ (bd (h:=w_ (bs (h:=w_ (ap (h:=w_ (a_ (h:=zC (e_ (h:=zJ (zA (zB (w_ (b_ (h:=w_ (m_ (h:=zC (e_ (h:=?_)))))))))))))))))))))
  )
 all_goals first
 | (refine(ih ((i+1,m++[⟨2 * (a:Int)+1,x,1⟩])) (by simp;omega) ?_ _ ?_).trans ?_;(focus (first|omega|(simp;done)|(simp;omega)));(focus (simp[zI,hw];done));(focus (simp only[e1];simp)))
 | (apply zM (ex:=(Ext.exit 9)) 1 (some [0,4,8,43,44,45,69,70,71]);(focus (simp[zI];rfl));(focus (rw[List.drop_eq_nil_of_le (by omega)];simp)))
theorem qL4 (c:Cl) (w:Wk) (j:Nat) (F:Hd→List Int) (hp:c.plan.length≤8) (hnl:w.nodes.length=c.plan.length) (hF:∀h∈w.nodes,oc.call 137 [h.v false]=some (.lst true 1 (ints (F h)),[])∧(F h).length≤100):∀x:Nat×(List Ct),(x.1≤c.plan.length∧x.2.length<50000000+100 * x.1)→∀s,zI 1 (some [0,4,8,43,44,45,69,70,71]) s=⟨[(0,.vptr (c.v false)),(4,.ref 1 0 x.2.length),(8,.ptr 2 0 []),(43,.lst false 0 (wks false c.workers)),(44,.int .i64 c.workers.length),(45,.int .i64 j),(69,.lst false 0 (nds false 0 c.plan)),(70,.int .i64 c.plan.length),(71,.int .i64 x.1)],[(1,⟨false,false,3,cts x.2,0⟩),(2,⟨true,false,7,[w.v false],0⟩)],3⟩ →
 oc.loop 68 17 s=some (.exit 6,⟨[(0,.vptr (c.v false)),(4,.ref 1 0 (x.2++zNz F w x.1 (c.plan.drop x.1)).length),(43,.lst false 0 (wks false c.workers)),(44,.int .i64 c.workers.length),(45,.int .i64 j)],[(1,⟨false,false,3,cts (x.2++zNz F w x.1 (c.plan.drop x.1)),0⟩)],2⟩):=by
 refine zW (σ:=Nat×(List Ct)) (fun x=>c.plan.length - x.1) _ (fun x=>⟨[(0,.vptr (c.v false)),(4,.ref 1 0 x.2.length),(8,.ptr 2 0 []),(43,.lst false 0 (wks false c.workers)),(44,.int .i64 c.workers.length),(45,.int .i64 j),(69,.lst false 0 (nds false 0 c.plan)),(70,.int .i64 c.plan.length),(71,.int .i64 x.1)],[(1,⟨false,false,3,cts x.2,0⟩),(2,⟨true,false,7,[w.v false],0⟩)],3⟩) _ ?_
 rintro⟨i,m⟩ hi ih s hs
 simp only at hi
 refine qB qDp rfl rfl hs ?_
 refine wa_ (zB (w_ (b_ (h:=zC (e_ (h:=zA (wa_ (?_))))))))
 refine c_ (h1:=?_) (h2:=?_)
 rotate_right 1
 focus
  intro c1
  first
  | exact dn c1
  | (
   have d1:=c1;try simp at d1
   refine zX (?_)
   )
 rotate_right 1
 focus
  intro c1
  first
  | exact dn c1
  | (
   have d1:=c1;try simp at d1
   have hw:=zV (i:=i) (by omega);obtain⟨d,hx,e1,g1⟩:=zAm (t:=false) (s:=0) (l:=c.plan) (i:=i) (by omega);obtain⟨h,hh⟩:∃h,w.nodes[i]? = some h:=⟨w.nodes[i]'(by omega),by simp⟩;obtain⟨hF1,hF2⟩:=hF h (List.mem_of_getElem? hh);have g2:=zTs (t:=false) hh;have hwm:IntKind.i64.wrap (2 * (i:Int))=2 * (i:Int):=qH (by omega) (by omega)
   refine zD (?_)
   )
 all_goals first
 | refine zS ?_
 | (
  refine zA ?_
  refine wa_ (zG (wa_ (zB (w_ (m_ (h:=w_ (x_ (h:=w_ (l_ (h:=w_ (al (h:=w_ (a_ (h:=w0 (s_ (h:=zC (e_ (h:=zA (?_)))))))))))))))))))
  refine wa_ (zB (w_ (m_ (h:=w_ (?_)))))
  refine b_ (hv:=zL3 (c:=2 * i) (by simp) (by omega)) (h:=?_)
  refine w_ (?_)
  refine b_ (hv:=kG (c:=2 * i+1) (by simp) (by omega)) (h:=?_)
  refine w_ (a_ (h:=zC (e_ (h:=zA (zG (wa_ (zB (w_ (f_ (h:=w_ (l_ (h:=w_ (bE (h:=w_ (m_ (h:=?_))))))))))))))))
  refine gw_ (h1:=?_) (h2:=?_)
  rotate_right 1
  focus
   intro c2
   first
   | exact dn c2
   | (
    have d2:=c2;try simp at d2
    refine go_ (h:=go_ (h:=go_ (h:=?_)))
    )
  rotate_right 1
  focus
   intro c2
   first
   | exact dn c2
   | (
    have d2:=c2;try simp at d2
    refine g_ (h:=w_ (f_ (h:=g_ (h:=w_ (l_ (h:=g_ (h:=w_ (bE (h:=?_)))))))))
    )
  all_goals
   refine w_ (pk (h:=w_ (a_ (h:=zC (e_ (h:=?_))))))
  all_goals first
  | (
   refine zA ?_
   refine c_ (h1:=?_) (h2:=?_)
   rotate_right 1
   focus
    intro c3
    first
    | exact dn c3
    | (
     have d3:=c3;try simp at d3
     refine wa_ (zB (w_ (l_ (h:=w_ (ca (hc:=zOd d) (h:=w_ (u_ (h:=w_ (m_ (h:=?_))))))))))
     refine gw_ (h1:=?_) (h2:=?_)
     rotate_right 1
     focus
      intro c4
      first
      | exact dn c4
      | (
       have d4:=c4;try simp at d4
       refine go_ (h:=go_ (h:=go_ (h:=?_)))
       )
     rotate_right 1
     focus
      intro c4
      first
      | exact dn c4
      | (
       have d4:=c4;try simp at d4
       refine g_ (h:=w_ (f_ (h:=g_ (h:=w_ (l_ (h:=g_ (h:=w_ (bE (h:=?_)))))))))
       )
     all_goals
      refine w_ (pk (h:=w_ (a_ (h:=zC (e_ (h:=?_))))))
     all_goals first
     | (
      refine zA ?_
      refine c_ (h1:=?_) (h2:=?_)
      rotate_right 1
      focus
       intro c5
       first
       | exact dn c5
       | (
        have d5:=c5;try simp at d5
        refine zD (?_)
        )
      rotate_right 1
      focus
       intro c5
       first
       | exact dn c5
       | (
        have d5:=c5;try simp at d5
        refine wa_ (zB (w_ (f_ (h:=w_ (l_ (h:=w_ (m_ (h:=w_ (x_ (h:=w_ (l_ (h:=w_ (ca (hc:=hF1) (h:=w_ (le (h:=w_ (m_ (h:=zC (e_ (h:=zA (?_)))))))))))))))))))))
        refine zG (?_)
        refine qF (qKi c w j i (F h) (by omega) (by omega) (0,m) (by simp only;omega) _ (by simp[zI])) ?_
        refine zT (?_)
        )
      )
     )
   rotate_right 1
   focus
    intro c3
    first
    | exact dn c3
    | (
     have d3:=c3;try simp at d3
     refine zB (w_ (m_ (h:=w_ (m_ (h:=w_ (f_ (h:=w_ (l_ (h:=w_ (bd (h:=w_ (bs (h:=w_ (ap (h:=w_ (a_ (h:=zC (e_ (h:=?_)))))))))))))))))))
     )
   )
  all_goals refine zJ ?_
  all_goals refine zJ ?_
  all_goals first
  | (
   refine zA ?_
   refine zB (w_ (b_ (h:=w_ (m_ (h:=zC (e_ (h:=?_)))))))
   )
  )
 all_goals first
 | (refine(ih ((i+1,m++[⟨2 * (i:Int)+1,w.ep,1⟩])) (by simp;omega) ?_ _ ?_).trans ?_;(focus (first|omega|(simp;done)|(simp;omega)));(focus (simp[zI,hw];done));(focus (simp only[e1,zNz,hh,Option.elim_some];rw[if_pos (by simp at *;simp[*])];simp)))
 | (refine(ih ((i+1,m++(F h).map fun e=>(⟨2 * (i:Int)+1,e,1⟩:Ct))) (by simp;omega) ?_ _ ?_).trans ?_;(focus (first|omega|(simp;done)|(simp;omega)));(focus (simp[zI,hw];done));(focus (simp only[e1,zNz,hh,Option.elim_some];rw[if_neg (by simp at *;simp[*]),if_pos (by simp at *;simp[*])];simp)))
 | (refine(ih ((i+1,m)) (by simp;omega) ?_ _ ?_).trans ?_;(focus (first|omega|(simp;done)|(simp;omega)));(focus (simp[zI,hw];done));(focus (simp only[e1,zNz,hh,Option.elim_some];rw[if_neg (by simp at *;simp[*]),if_neg (by simp at *;simp[*])];simp)))
 | (apply zM (ex:=(Ext.exit 6)) 1 (some [0,4,43,44,45]);(focus (simp[zI];rfl));(focus (rw[List.drop_eq_nil_of_le (by omega)];simp[zNz])))
theorem zO7 {F:Hd→List Int} {w:Wk} (hF:∀h∈w.nodes,(F h).length≤100):∀{l:List Nd} {i:Nat},(zNz F w i l).length≤100 * l.length
 | [],_=>by simp[zNz]
 | d::r,i=>by
  have ih:=zO7 hF (l:=r) (i:=i+1)
  have h1:((w.nodes[i]?).elim [] F).length≤100:=by
   cases h:w.nodes[i]? with
   | none=>simp
   | some x=>exact hF x (List.mem_of_getElem? h)
  simp only[zNz,List.length_append,List.length_cons]
  split
  ·simp;omega
  ·split
   ·simp;omega
   ·simp;omega
theorem l_tc9 (c:Cl) (F:Hd→List Int) (hp:c.plan.length≤8) (h3:c.workers.length≤3) (hx:zA8 c.workers<2000000) (hN:∀w∈c.workers,w.nodes.length=c.plan.length) (hF:∀w∈c.workers,∀h∈w.nodes,oc.call 137 [h.v false]=some (.lst true 1 (ints (F h)),[])∧(F h).length≤100):∀x:Nat×(List Ct),(x.1≤c.workers.length∧x.2.length<3000000+3000000 * x.1)→∀s,zI 1 (some [0,4,43,44,45]) s=⟨[(0,.vptr (c.v false)),(4,.ref 1 0 x.2.length),(43,.lst false 0 (wks false c.workers)),(44,.int .i64 c.workers.length),(45,.int .i64 x.1)],[(1,⟨false,false,3,cts x.2,0⟩)],2⟩ →
 oc.loop 68 9 s=some (.exit 2,⟨[(4,.ref 1 0 (x.2++((c.workers.drop x.1).map (qDr F c.plan)).flatten).length)],[(1,⟨false,false,3,cts (x.2++((c.workers.drop x.1).map (qDr F c.plan)).flatten),0⟩)],2⟩):=by
 refine zW (σ:=Nat×(List Ct)) (fun x=>c.workers.length - x.1) _ (fun x=>⟨[(0,.vptr (c.v false)),(4,.ref 1 0 x.2.length),(43,.lst false 0 (wks false c.workers)),(44,.int .i64 c.workers.length),(45,.int .i64 x.1)],[(1,⟨false,false,3,cts x.2,0⟩)],2⟩) _ ?_
 rintro⟨i,m⟩ hi ih s hs
 simp only at hi
 refine qB qDp rfl rfl hs ?_
 refine wa_ (zB (w_ (b_ (h:=zC (e_ (h:=zA (wa_ (?_))))))))
 refine c_ (h1:=?_) (h2:=?_)
 rotate_right 1
 focus
  intro c1
  first
  | exact dn c1
  | (
   have d1:=c1;try simp at d1
   refine zX (?_)
   )
 rotate_right 1
 focus
  intro c1
  first
  | exact dn c1
  | (
   have d1:=c1;try simp at d1
   have hw:=zV (i:=i) (by omega);obtain⟨w,hb,e1,g1⟩:=zIp (t:=false) (l:=c.workers) (i:=i) (by omega);have hmw:=List.mem_of_getElem? hb;have hbw:=zEz hmw;have hbi:=xV (l:=w.inbox);have hb2:w.inbox.length<2000000:=(by unfold zQx at hbw;omega);have hnl:=zO7 (F:=F) (w:=w) (fun h hh=>(hF w hmw h hh).2) (l:=c.plan) (i:=0);obtain⟨m2,hm2⟩:∃m2,m++(w.inbox.drop 0).map zV5=m2:=⟨_,rfl⟩;have hm2l:m2.length=m.length+w.inbox.length:=(by rw[←hm2];simp);have h12:=qKq c w i hb2 (0,m) (by simp only;omega);simp only[hm2] at h12
   refine zD (?_)
   )
 all_goals first
 | refine zS ?_
 | (
  refine zA ?_
  refine wa_ (zG (wa_ (zB (w_ (x_ (h:=w_ (l_ (h:=w_ (al (h:=w0 (s_ (h:=zC (e_ (h:=zA (wa_ (wa_ (?_)))))))))))))))))
  refine zB (w_ (f_ (h:=w_ (l_ (h:=w_ (le (h:=w_ (m_ (h:=zC (e_ (h:=zA (zG (?_)))))))))))))
  refine qF (h12 _ (by simp[zI])) ?_
  refine zT (zA (wa_ (zB (w_ (m_ (h:=w_ (nc (h:=w_ (f_ (h:=w_ (l_ (h:=w_ (le (h:=w_ (m_ (h:=zC (e_ (h:=zA (?_)))))))))))))))))))
  refine zG (?_)
  refine qF (qL4 c w i F hp (hN w hmw) (hF w hmw) (0,m2) (by simp only;omega) _ (by simp[zI])) ?_
  refine zT (zJ (zA (zB (w_ (b_ (h:=w_ (m_ (h:=zC (e_ (h:=?_))))))))))
  )
 all_goals first
 | (refine(ih ((i+1,m2++zNz F w 0 c.plan)) (by simp;omega) ?_ _ ?_).trans ?_;(focus (first|omega|(simp;done)|(simp;omega)));(focus (simp[zI,hw];done));(focus (simp only[e1,← hm2];simp[qDr])))
 | (apply zM (ex:=(Ext.exit 2)) 1 (some [4]);(focus (simp[zI];rfl));(focus (rw[List.drop_eq_nil_of_le (by omega)];simp)))
theorem e_tc (c:Cl) (F:Hd→List Int) (hp:c.plan.length≤8) (h3:c.workers.length≤3) (h1:c.links.length<2000000) (h2:vJ c.links<2000000) (hne:0<c.links.length) (hx:zA8 c.workers<2000000) (hN:∀w∈c.workers,w.nodes.length=c.plan.length) (hF:∀w∈c.workers,∀h∈w.nodes,oc.call 137 [h.v false]=some (.lst true 1 (ints (F h)),[])∧(F h).length≤100) (hT:(zEf F c).length<500000) (hn:∀x∈zEf F c,IntKind.i64.wrap (0+x.n)=x.n):oc.call 68 [.vptr (c.v false)]=some (.tup [.lst true 3 (cts (qA3 ((zEf F c).foldl xS [])).1),.int .i64 (qA3 ((zEf F c).foldl xS [])).2],[]):=by
 refine qD rfl qDp rfl rfl rfl (by simp;rfl) (by simp;rfl) ?_
 obtain⟨L,hL⟩:∃L,c.links.flatten=L:=⟨_,rfl⟩
 have hc:=qCr c.links h1 h2 hne
 rw[hL] at hc
 have hLl:L.length=vJ c.links:=by rw[←hL];exact lenS_flat
 have hlk:(zR8 L).length≤L.length:=by unfold zR8;rw[List.length_map];exact List.length_filter_le _ _
 obtain⟨T,hTe⟩:∃T,zEf F c=T:=⟨_,rfl⟩
 have hTd:[]++zR8 (L.drop 0)++((c.workers.drop 0).map (qDr F c.plan)).flatten=T:=by rw[←hTe];simp[zEf,hL]
 obtain⟨K,hK⟩:∃K,[]++zR8 (L.drop 0)=K:=⟨_,rfl⟩
 have hKl:K.length≤L.length:=by rw[←hK];simpa using hlk
 have hl3:=l_tc3 c L (by omega) (0,[]) (by simp)
 simp only[hK] at hl3
 have hl9:=l_tc9 c F hp h3 hx hN hF (0,K) (by simp only;omega)
 rw[hK] at hTd
 simp only[hTd] at hl9
 rw[hTe] at hT hn
 have hadd:=qGr [] T (by simp) hT (by simp) (by simpa using hn)
 refine wa_ (zB (w_ (aN (h:=w_ (a_ (h:=zC (e_ (h:=zA (wa_ (zB (w_ (bs (h:=w_ (a_ (h:=zC (e_ (h:=zA (?_))))))))))))))))))
 refine wa_ (wa_ (zB (w_ (m_ (h:=w_ (nc (h:=w_ (f_ (h:=w_ (l_ (h:=w_ (ca (hc:=hc) (h:=w_ (le (h:=w_ (m_ (h:=zC (e_ (h:=zA (?_))))))))))))))))))))
 refine zG (?_)
 refine qF (hl3 _ (by simp[zI])) ?_
 refine zT (zA (wa_ (wa_ (zB (w_ (m_ (h:=w_ (nc (h:=w_ (f_ (h:=w_ (l_ (h:=w_ (le (h:=w_ (m_ (h:=zC (e_ (h:=?_)))))))))))))))))))
 refine zA (zG (?_))
 refine qF (hl9 _ (by simp[zI])) ?_
 refine zT (zA (wa_ (zB (w_ (m_ (h:=w_ (ca (hc:=hadd) (h:=w_ (ex (h:=w_ (ex (h:=w_ (a_ (h:=w_ (a_ (h:=zC (e_ (h:=zA (?_)))))))))))))))))))
 refine zH (?_)
 all_goals (refine qZ (hr:=(zR rfl (zR rfl zO))) (h:=?_);(focus (rw[hTe];simp)))
end Go.Proofs.YtbcgenkegnmkhaaGreat.Ev
namespace Go.Proofs.YtbcgenkegnmkhaaGreat.Ev
open Go
set_option maxRecDepth 100000
set_option linter.unusedSimpArgs false
set_option linter.unusedVariables false
set_option maxHeartbeats 2000000
section
variable {id base : Nat} {e : List (Nat × V)} {o : List (Nat × Ob)} {n : Nat} {t : TypeId} {K : V→List (Nat × Ob)→Prop}
theorem caT0 {args:Array Operand} {ts:Array TypeId} {fo:Operand} {f:FuncId} {q m sz:Nat} {ys:List V} {ob:Ob} {o1:List (Nat×Ob)} {id':Nat} (hx:jX e args.toList=some [.ref q 0 m]:=by exact rfl) (hf:opV e fo=some (.clo f []):=by exact rfl) (hB:cf.inB f=false:=by(rw[zCp];rfl)) (hmd:cf.md f=[.take]:=by(rw[xW];rfl)) (ho:zN o q=some ob:=by exact rfl) (hb:ob.bx=false:=by rfl) (hfx:ob.fx=false:=by rfl) (hm:m=ob.xs.length:=by first|rfl|simp) (hd:jU o q=o1:=by(simp;rfl))
  (hc:oc.call f [.lst true ob.sz ob.xs]=some (.lst true sz ys,[])) (hid:id=id':=by((try simp);rfl)) (h:K (.ref id' 0 ys.length) ((id',⟨false,false,sz,ys,0⟩)::o1)):opK oc.call cf id base e o n t (.call ⟨.value fo,args,ts⟩) K:=by
 subst hd hm hid
 refine⟨_,_,?_,h⟩
 have hg:St.give ⟨e,o,n⟩ q 0 ob.xs.length=some (ob.sz,ob.xs,⟨e,jU o q,n⟩):=by
  simp only[St.give,ho,hb,hfx,Nat.zero_add,Nat.le_refl,and_self,if_true,List.drop_zero,List.take_length]
 have hz:V.fz (.ref q 0 ob.xs.length) ⟨e,o,n⟩=some (.lst true ob.sz ob.xs,⟨e,jU o q,n⟩):=by
  simp only[V.fz,hg,zK]
 simp only[opE,hx,hf,V.capsOk,if_true,hB,Bool.false_eq_true,if_false,List.append_nil,yM,hmd,jJ,qT,List.headD_cons,List.tail_cons,List.headD_nil,List.tail_nil,hz,V.argOk,V.isTup,jC,zK,hc,xB,V.mention,V.mentionL,List.isEmpty_nil,true_or,V.thaw,true_and,xX,List.nil_append,List.singleton_append]
 rw[if_pos (by omega)]
end
theorem zIb {t:TypeId} {k:IntKind} (h:Tryz.prog.underlying t=some (.int k)):cf.ints t=some k:=by unfold cf;simp only[jV,h]
theorem cd263:cf.code 263=some Tryz.f263:=zP Tryz.func263 (by kernel_rfl)
theorem cd230:cf.code 230=some Tryz.f230:=zP Tryz.func230 (by kernel_rfl)
theorem zTx :oc.call 263 [.int .u64 0]=some (.int .i64 0,[]):=by
 refine qD rfl cd263 rfl rfl rfl (by simp;rfl) (by simp;rfl) ?_
 refine wa_ (zB (w_ (a_ (h:=zC (e_ (h:=zA (wa_ (wa_ (zB (w_ (m_ (h:=w_ (b_ (h:=zC (e_ (h:=zA (?_)))))))))))))))))
 refine c_ (h1:=?_) (h2:=?_)
 rotate_right 1
 focus
  intro c1
  first
  | exact dn c1
  | (
   have d1:=c1;try simp at d1
   refine zD (?_)
   )
 rotate_right 1
 focus
  intro c1
  first
  | exact dn c1
  | (
   have d1:=c1;try simp at d1
   refine wa_ (zB (w_ (m_ (h:=w_ (sh (h:=w_ (a_ (h:=zC (e_ (h:=zA (zB (w_ (a_ (h:=zC (e_ (h:=?_))))))))))))))))
   )
 all_goals first
 | (
  refine zA ?_
  refine wa_ (wa_ (zB (w_ (m_ (h:=w_ (b_ (h:=zC (e_ (h:=zA (?_))))))))))
  refine c_ (h1:=?_) (h2:=?_)
  rotate_right 1
  focus
   intro c2
   first
   | exact dn c2
   | (
    have d2:=c2;try simp at d2
    refine zD (?_)
    )
  rotate_right 1
  focus
   intro c2
   first
   | exact dn c2
   | (
    have d2:=c2;try simp at d2
    refine wa_ (zB (w_ (m_ (h:=w_ (sh (h:=w_ (a_ (h:=zC (e_ (h:=zA (zB (w_ (m_ (h:=w_ (b_ (h:=w_ (a_ (h:=zC (e_ (h:=?_))))))))))))))))))))
    )
  all_goals first
  | (
   refine zA ?_
   refine wa_ (wa_ (zB (w_ (m_ (h:=w_ (b_ (h:=zC (e_ (h:=zA (?_))))))))))
   refine c_ (h1:=?_) (h2:=?_)
   rotate_right 1
   focus
    intro c3
    first
    | exact dn c3
    | (
     have d3:=c3;try simp at d3
     refine zD (?_)
     )
   rotate_right 1
   focus
    intro c3
    first
    | exact dn c3
    | (
     have d3:=c3;try simp at d3
     refine wa_ (zB (w_ (m_ (h:=w_ (sh (h:=w_ (a_ (h:=zC (e_ (h:=zA (zB (w_ (m_ (h:=w_ (b_ (h:=w_ (a_ (h:=zC (e_ (h:=?_))))))))))))))))))))
     )
   all_goals first
   | (
    refine zA ?_
    refine wa_ (zB (w_ (m_ (h:=w_ (m_ (h:=w_ (?_)))))))
    refine cv (h0:=zIb Tryz.underlying293) (h1:=zIb Tryz.underlying5) (h:=?_)
    refine w_ (?_)
    refine ixS (a:=0) (c:=(0:UInt8)) (hs:=qHd Tryz.underlying9) (h0:=by decide) (hc:=?hc) (h:=?_);case hc=>rfl
    refine w_ (cv (h:=w_ (b_ (h:=w_ (a_ (h:=zC (e_ (h:=zA (zH (?_))))))))))
    )
   )
  )
 all_goals (refine qZ (hr:=(zR rfl zO)) (h:=?_);(focus (rfl)))
theorem qD0 :oc.call 230 [.int .u64 0]=some (.int .i64 0,[]):=by
 refine qD rfl cd230 rfl rfl rfl (by simp;rfl) (by simp;rfl) ?_
 refine wa_ (zB (w_ (a_ (h:=zC (e_ (h:=zA (wa_ (?_))))))))
 refine c_ (h1:=?_) (h2:=?_)
 rotate_right 1
 focus
  intro c1
  first
  | exact dn c1
  | (
   have d1:=c1;try simp at d1
   refine zD (?_)
   )
 rotate_right 1
 focus
  intro c1
  first
  | exact dn c1
  | (
   have d1:=c1;try simp at d1
   refine wa_ (zB (w_ (m_ (h:=w_ (cv (h:=w_ (MISSING_CALL_math/bits.Len32 (h:=w_ (a_ (h:=zC (e_ (h:=zA (zH (?_))))))))))))))
   )
 all_goals first
 | refine zL ?_
 | (
  refine zA ?_
  refine wa_ (zB (w_ (m_ (h:=w_ (ca (hc:=zTx) (h:=w_ (a_ (h:=zC (e_ (h:=zA (zH (?_))))))))))))
  )
 all_goals (refine qZ (hr:=(zR rfl zO)) (h:=?_);(focus (first|(simp_all;done)|(simp_all<;>omega)|(simp_all<;>split<;>simp_all<;>omega))))
theorem qGh:∀s,zI 3 (some [0,1,2,6]) s=⟨[(0,.ref 0 0 0),(1,.int .i64 0),(2,.int .i64 0),(6,.int .i64 1)],[(0,⟨false,true,1,[],0⟩)],3⟩→oc.loop 253 1 s=some (.exit 0,⟨[],[(0,⟨false,true,1,[],0⟩)],3⟩):=by
 intro s hs
 refine qB qFj rfl rfl hs ?_
 refine wa_ (wa_ (zB (w_ (m_ (h:=w_ (m_ (h:=w_ (b_ (h:=zC (e_ (h:=zA (?_))))))))))))
 refine c_ (h1:=?_) (h2:=?_)
 rotate_right 1
 focus
  intro c1
  first
  | exact dn c1
  | (
   have d1:=c1;try simp at d1
   refine zX (?_)
   )
 rotate_right 1
 focus
  intro c1
  first
  | exact dn c1
  | (
   have d1:=c1;try simp at d1
   exfalso;simp at c1
   )
 all_goals first
 | refine zS ?_
 | (
  refine zA ?_
  refine wa_ (zG (wa_ (zB (w_ (m_ (h:=w_ (a_ (h:=zC (e_ (h:=zA (zG (?_))))))))))))
  refine qF (trivial) ?_
  refine zT (zJ (zA (zB (w_ (m_ (h:=w_ (b_ (h:=w_ (a_ (h:=zC (e_ (h:=?_))))))))))))
  )
 all_goals (apply zM (ex:=(Ext.exit 0)) 3 (some []);(focus (simp[zI];rfl));(focus (rfl)))
theorem qJp :oc.call 253 [.iol 1 [],.int .i64 0,.int .i64 0]=some (.tup [],[.lst true 1 []]):=by
 refine qD rfl qFj rfl rfl rfl (by simp;rfl) (by simp;rfl) ?_
 refine wa_ (zB (w_ (m_ (h:=w_ (b_ (h:=w_ (a_ (h:=zC (e_ (h:=zA (zG (?_))))))))))))
 refine qF (qGh _ (by simp[zI];rfl)) ?_
 refine zT (?_)
 all_goals (refine qZ (hr:=zO) (h:=?_);(focus (first|(simp_all;done)|(simp_all<;>omega)|(simp_all<;>split<;>simp_all<;>omega))))
theorem qFp:∀s,zI 4 (some [0,1,2,3,8,9]) s=⟨[(0,.ref 0 0 0),(1,.int .i64 0),(2,.int .i64 0),(3,.int .i64 0),(8,.bool true),(9,.bool true)],[(0,⟨false,true,1,[],0⟩)],4⟩→oc.loop 229 2 s=some (.ret,⟨[],[(0,⟨false,true,1,[],0⟩)],4⟩):=by
 intro s hs
 refine qB qGt rfl rfl hs ?_
 refine zG (wa_ (zB (w_ (m_ (h:=w_ (m_ (h:=w_ (b_ (h:=w_ (a_ (h:=zC (e_ (h:=zA (wa_ (wa_ (zB (?_)))))))))))))))))
 refine w_ (m_ (h:=w_ (b_ (h:=zC (e_ (h:=zA (?_)))))))
 refine c_ (h1:=?_) (h2:=?_)
 rotate_right 1
 focus
  intro c1
  first
  | exact dn c1
  | (
   have d1:=c1;try simp at d1
   exact absurd c1 (by decide)
   )
 rotate_right 1
 focus
  intro c1
  first
  | exact dn c1
  | (
   have d1:=c1;try simp at d1
   refine wa_ (zB (w_ (m_ (h:=w_ (m_ (h:=w_ (m_ (h:=w_ (cI (hc:=qJp) (hal:=rfl) (h:=zC (e_ (h:=zA (zH (?_))))))))))))))
   )
 all_goals first
 | refine zL ?_
 | (
  refine zA ?_
  refine wa_ (wa_ (zB (w_ (m_ (h:=w_ (bE (h:=zC (e_ (h:=zA (?_))))))))))
  refine c_ (h1:=?_) (h2:=?_)
  rotate_right 1
  focus
   intro c2
   first
   | exact dn c2
   | (
    have d2:=c2;try simp at d2
    refine zD (?_)
    )
  rotate_right 1
  focus
   intro c2
   first
   | exact dn c2
   | (
    have d2:=c2;try simp at d2
    refine wa_ (zB (w_ (m_ (h:=w_ (m_ (h:=w_ (m_ (h:=w_ (MISSING_CALL_slices.heapSortOrdered[int64] (h:=zC (e_ (h:=zA (zH (?_))))))))))))))
    )
  all_goals first
  | refine zL ?_
  | (
   refine zA ?_
   refine wa_ (wa_ (zB (w_ (m_ (h:=w_ (u_ (h:=zC (e_ (h:=zA (?_))))))))))
   refine c_ (h1:=?_) (h2:=?_)
   rotate_right 1
   focus
    intro c3
    first
    | exact dn c3
    | (
     have d3:=c3;try simp at d3
     refine zD (?_)
     )
   rotate_right 1
   focus
    intro c3
    first
    | exact dn c3
    | (
     have d3:=c3;try simp at d3
     refine wa_ (zB (w_ (m_ (h:=w_ (m_ (h:=w_ (m_ (h:=w_ (MISSING_CALL_slices.breakPatternsOrdered[int64] (h:=zC (e_ (h:=zA (zB (w_ (m_ (h:=w_ (b_ (h:=w_ (a_ (h:=?_))))))))))))))))))))
     refine zC (e_ (h:=?_))
     )
   all_goals first
   | (
    refine zA ?_
    refine wa_ (zB (w_ (m_ (h:=w_ (m_ (h:=w_ (m_ (h:=w_ (MISSING_CALL_slices.choosePivotOrdered[int64] (h:=w_ (m_ (h:=w_ (ex (h:=w_ (ex (h:=w_ (a_ (h:=w_ (a_ (h:=zC (e_ (h:=?_))))))))))))))))))))))
    refine zA (wa_ (wa_ (zB (w_ (m_ (h:=w_ (bE (h:=zC (e_ (h:=zA (?_)))))))))))
    refine c_ (h1:=?_) (h2:=?_)
    rotate_right 1
    focus
     intro c4
     first
     | exact dn c4
     | (
      have d4:=c4;try simp at d4
      refine zD (?_)
      )
    rotate_right 1
    focus
     intro c4
     first
     | exact dn c4
     | (
      have d4:=c4;try simp at d4
      refine wa_ (zB (w_ (m_ (h:=w_ (m_ (h:=w_ (m_ (h:=w_ (MISSING_CALL_slices.reverseRangeOrdered[int64] (h:=zC (e_ (h:=zA (wa_ (zB (w_ (m_ (h:=w_ (b_ (h:=?_)))))))))))))))))))
      refine w_ (m_ (h:=w_ (m_ (h:=w_ (b_ (h:=w_ (b_ (h:=w_ (a_ (h:=zC (e_ (h:=zA (zB (w_ (a_ (h:=zC (e_ (h:=?_))))))))))))))))))
      )
    all_goals first
    | (
     refine zA ?_
     refine wa_ (wa_ (zB (w_ (m_ (h:=w_ (m_ (h:=?_)))))))
     refine gw_ (h1:=?_) (h2:=?_)
     rotate_right 1
     focus
      intro c5
      first
      | exact dn c5
      | (
       have d5:=c5;try simp at d5
       refine go_ (h:=?_)
       )
     rotate_right 1
     focus
      intro c5
      first
      | exact dn c5
      | (
       have d5:=c5;try simp at d5
       refine g_ (h:=w_ (m_ (h:=?_)))
       )
     all_goals
      refine w_ (pk (h:=w_ (m_ (h:=?_))))
      refine gw_ (h1:=?_) (h2:=?_)
      rotate_right 1
      focus
       intro c6
       first
       | exact dn c6
       | (
        have d6:=c6;try simp at d6
        refine go_ (h:=go_ (h:=?_))
        )
      rotate_right 1
      focus
       intro c6
       first
       | exact dn c6
       | (
        have d6:=c6;try simp at d6
        refine g_ (h:=w_ (m_ (h:=g_ (h:=w_ (bE (h:=?_))))))
        )
      all_goals
       refine w_ (pk (h:=zC (e_ (h:=?_))))
     all_goals first
     | (
      refine zA ?_
      refine c_ (h1:=?_) (h2:=?_)
      rotate_right 1
      focus
       intro c7
       first
       | exact dn c7
       | (
        have d7:=c7;try simp at d7
        refine zD (?_)
        )
      rotate_right 1
      focus
       intro c7
       first
       | exact dn c7
       | (
        have d7:=c7;try simp at d7
        refine wa_ (zB (w_ (m_ (h:=w_ (m_ (h:=w_ (m_ (h:=w_ (MISSING_CALL_slices.partialInsertionSortOrdered[int64] (h:=zC (e_ (h:=zA (?_)))))))))))))
        refine c_ (h1:=?_) (h2:=?_)
        rotate_right 1
        focus
         intro c8
         first
         | exact dn c8
         | (
          have d8:=c8;try simp at d8
          refine zD (?_)
          )
        rotate_right 1
        focus
         intro c8
         first
         | exact dn c8
         | (
          have d8:=c8;try simp at d8
          refine zH (?_)
          )
        )
      )
     all_goals first
     | refine zL ?_
     | (
      refine zA ?_
      refine wa_ (wa_ (qE (y_ (m_ (h:=ax_ (h:=y_ (b_ (h:=ax_ (h:=y_ (m_ (h:=ax_ (h:=?_))))))))))))
      refine gw_ (h1:=?_) (h2:=?_)
      rotate_right 1
      focus
       intro c9
       first
       | exact dn c9
       | (
        have d9:=c9;try simp at d9
        refine gd_ (h:=gd_ (h:=gd_ (h:=gd_ (h:=gd_ (h:=gd_ (h:=gd_ (h:=gd_ (h:=gd_ (h:=gd_ (h:=gd_ (h:=?_)))))))))))
        )
      rotate_right 1
      focus
       intro c9
       first
       | exact dn c9
       | (
        have d9:=c9;try simp at d9
        refine g_ (h:=y_ (m_ (h:=ax_ (h:=g_ (h:=y_ (m_ (h:=ax_ (h:=g_ (h:=y_ (b_ (h:=ax_ (h:=g_ (h:=y_ (x_ (h:=ax_ (h:=g_ (h:=y_ (l_ (h:=ax_ (h:=g_ (h:=y_ (m_ (h:=ax_ (h:=g_ (h:=y_ (m_ (h:=ax_ (h:=g_ (h:=y_ (x_ (h:=ax_ (h:=g_ (h:=y_ (l_ (h:=ax_ (h:=g_ (h:=y_ (MISSING_CALL_cmp.Less[int64] (h:=ax_ (h:=g_ (h:=y_ (u_ (h:=ax_ (h:=?_))))))))))))))))))))))))))))))))))))))))))))
        )
      all_goals
       refine y_ (pk (h:=ax_ (h:=zC (ed (h:=?_)))))
      all_goals first
      | (
       refine zA ?_
       refine c_ (h1:=?_) (h2:=?_)
       rotate_right 1
       focus
        intro c10
        first
        | exact dn c10
        | (
         have d10:=c10;try simp at d10
         refine zD (?_)
         )
       rotate_right 1
       focus
        intro c10
        first
        | exact dn c10
        | (
         have d10:=c10;try simp at d10
         refine wa_ (zB (w_ (m_ (h:=w_ (m_ (h:=w_ (m_ (h:=w_ (m_ (h:=w_ (MISSING_CALL_slices.partitionEqualOrdered[int64] (h:=w_ (a_ (h:=zC (e_ (h:=zA (wa_ (zB (?_)))))))))))))))))))
         refine w_ (m_ (h:=w_ (a_ (h:=zC (e_ (h:=zA (zX (?_))))))))
         )
       )
      all_goals first
      | refine zS ?_
      | (
       refine zA ?_
       refine wa_ (zB (w_ (m_ (h:=w_ (m_ (h:=w_ (m_ (h:=w_ (m_ (h:=w_ (MISSING_CALL_slices.partitionOrdered[int64] (h:=w_ (m_ (h:=w_ (ex (h:=w_ (ex (h:=w_ (a_ (h:=w_ (a_ (h:=?_))))))))))))))))))))))
       refine zC (e_ (h:=zA (wa_ (zB (w_ (m_ (h:=w_ (a_ (h:=zC (e_ (h:=zA (wa_ (zB (w_ (m_ (h:=w_ (m_ (h:=?_))))))))))))))))))
       refine w_ (b_ (h:=w_ (m_ (h:=w_ (m_ (h:=w_ (b_ (h:=w_ (a_ (h:=w_ (a_ (h:=zC (e_ (h:=zA (wa_ (zB (w_ (m_ (h:=w_ (b_ (h:=?_)))))))))))))))))))))
       refine w_ (a_ (h:=zC (e_ (h:=zA (wa_ (zB (w_ (m_ (h:=w_ (m_ (h:=w_ (b_ (h:=zC (e_ (h:=zA (?_))))))))))))))))
       refine c_ (h1:=?_) (h2:=?_)
       rotate_right 1
       focus
        intro c11
        first
        | exact dn c11
        | (
         have d11:=c11;try simp at d11
         refine wa_ (zB (w_ (m_ (h:=w_ (m_ (h:=w_ (b_ (h:=w_ (a_ (h:=zC (e_ (h:=zA (wa_ (zB (w_ (m_ (h:=w_ (m_ (h:=?_)))))))))))))))))))
         refine w_ (b_ (h:=w_ (m_ (h:=w_ (m_ (h:=w_ (MISSING_CALL_slices.pdqsortOrdered[int64] (h:=zC (e_ (h:=zA (zB (w_ (m_ (h:=w_ (a_ (h:=zC (e_ (h:=?_))))))))))))))))))
         )
       rotate_right 1
       focus
        intro c11
        first
        | exact dn c11
        | (
         have d11:=c11;try simp at d11
         refine wa_ (zB (w_ (m_ (h:=w_ (m_ (h:=w_ (b_ (h:=w_ (a_ (h:=zC (e_ (h:=zA (wa_ (zB (w_ (m_ (h:=w_ (m_ (h:=?_)))))))))))))))))))
         refine w_ (m_ (h:=w_ (m_ (h:=w_ (MISSING_CALL_slices.pdqsortOrdered[int64] (h:=zC (e_ (h:=zA (zB (w_ (m_ (h:=w_ (b_ (h:=w_ (a_ (h:=zC (e_ (h:=?_))))))))))))))))))
         )
       )
      )
     )
    )
   )
  )
 all_goals first|refine zJ ?_|refine zY ?_|refine zT ?_
 all_goals (apply zM (ex:=Ext.ret) 4 (some []);(focus (simp[zI];rfl));(focus (rfl)))
theorem qIi :oc.call 229 [.iol 1 [],.int .i64 0,.int .i64 0,.int .i64 0]=some (.tup [],[.lst true 1 []]):=by
 refine qD rfl qGt rfl rfl rfl (by simp;rfl) (by simp;rfl) ?_
 refine wa_ (zB (w_ (a_ (h:=zC (e_ (h:=zA (wa_ (zB (w_ (a_ (h:=zC (e_ (h:=zA (zG (?_)))))))))))))))
 refine qF (qFp _ (by simp[zI])) ?_
 refine zY (?_)
 all_goals (refine qZ (hr:=zO) (h:=?_);(focus (first|(simp_all;done)|(simp_all<;>omega)|(simp_all<;>split<;>simp_all<;>omega))))
theorem qAs :oc.call 187 [.iol 1 []]=some (.tup [],[.lst true 1 []]):=by
 refine qD rfl cd187 rfl rfl rfl (by simp;rfl) (by simp;rfl) ?_
 refine wa_ (zB (w_ (m_ (h:=w_ (le (h:=w_ (a_ (h:=zC (e_ (h:=zA (zB (w_ (m_ (h:=w_ (m_ (h:=w_ (m_ (h:=w_ (?_)))))))))))))))))))
 refine cv (h0:=zIb Tryz.underlying3) (h1:=zIb Tryz.underlying258) (h:=?_)
 refine w_ (ca (hc:=qD0) (h:=w_ (cI (hc:=qIi) (hal:=rfl) (h:=zC (e_ (h:=?_))))))
 all_goals (refine qZ (hr:=zO) (h:=?_);(focus (first|(simp_all;done)|(simp_all<;>omega)|(simp_all<;>split<;>simp_all<;>omega))))
theorem qI8 :oc.call 188 [.lst true 1 []]=some (.lst true 1 [],[]):=by
 refine qD rfl cd188 rfl rfl rfl (by simp;rfl) (by simp;rfl) ?_
 refine wa_ (zB (w_ (aN (h:=zC (e_ (h:=zA (wa_ (wa_ (zB (w_ (m_ (h:=w_ (le (h:=w_ (b_ (h:=zC (e_ (h:=?_))))))))))))))))))
 refine zA (?_)
 refine c_ (h1:=?_) (h2:=?_)
 rotate_right 1
 focus
  intro c1
  first
  | exact dn c1
  | (
   have d1:=c1;try simp at d1
   refine zD (?_)
   )
 rotate_right 1
 focus
  intro c1
  first
  | exact dn c1
  | (
   have d1:=c1;try simp at d1
   refine wa_ (zB (w_ (m_ (h:=w_ (a_ (h:=zC (e_ (h:=zA (zH (?_))))))))))
   )
 all_goals first
 | refine zL ?_
 | (
  refine zA ?_
  refine wa_ (wa_ (zB (w_ (a_ (h:=zC (e_ (h:=zA (zG (?_)))))))))
  refine qF (trivial) ?_
  first|refine zY ?_|refine zT ?_
  all_goals first
  | refine zL ?_
  | (
   refine zA ?_
   refine wa_ (zB (w_ (m_ (h:=w_ (a_ (h:=zC (e_ (h:=zA (zH (?_))))))))))
   )
  )
 all_goals (refine qZ (hr:=(zR rfl zO)) (h:=?_);(focus (first|(simp_all;done)|(simp_all<;>omega)|(simp_all<;>split<;>simp_all<;>omega))))
theorem l_ep0:∀s,zI 1 (some [3,8,9,10]) s=⟨[(3,.ref 1 0 0),(8,.lst false 0 []),(9,.int .i64 0),(10,.int .i64 0)],[(1,⟨false,false,1,[],0⟩)],2⟩→oc.loop 137 3 s=some (.exit 0,⟨[(3,.ref 1 0 0)],[(1,⟨false,false,1,[],0⟩)],2⟩):=by
 intro s hs
 refine qB qJg rfl rfl hs ?_
 refine wa_ (zB (w_ (b_ (h:=zC (e_ (h:=zA (wa_ (?_))))))))
 refine c_ (h1:=?_) (h2:=?_)
 rotate_right 1
 focus
  intro c1
  first
  | exact dn c1
  | (
   have d1:=c1;try simp at d1
   refine zX (?_)
   )
 rotate_right 1
 focus
  intro c1
  first
  | exact dn c1
  | (
   have d1:=c1;try simp at d1
   exfalso;simp at c1
   )
 all_goals first
 | refine zS ?_
 | (
  refine zA ?_
  refine wa_ (zG (wa_ (zB (w_ (x_ (h:=w_ (l_ (h:=w_ (al (h:=w0 (s_ (h:=zC (e_ (h:=zA (zB (w_ (m_ (h:=?_))))))))))))))))))
  refine w_ (f_ (h:=w_ (l_ (h:=w_ (bs (h:=w_ (ap (h:=w_ (a_ (h:=zC (e_ (h:=zJ (zA (zB (w_ (b_ (h:=w_ (m_ (h:=zC (e_ (h:=?_)))))))))))))))))))))
  )
 all_goals (apply zM (ex:=(Ext.exit 0)) 1 (some [3]);(focus (simp[zI];rfl));(focus (rfl)))
theorem e_ep0 (a b:List Et) (k:Int):oc.call 137 [(Hd.v false ⟨a,b,[],k⟩)]=some (.lst true 1 (ints []),[]):=by
 refine qD rfl qJg rfl rfl rfl (by simp;rfl) (by simp;rfl) ?_
 refine wa_ (zB (w_ (bx (h:=w_ (aN (h:=zC (e_ (h:=zA (wa_ (zB (w_ (bs (h:=w_ (a_ (h:=zC (e_ (h:=zA (?_))))))))))))))))))
 refine wa_ (wa_ (zB (w_ (f_ (h:=w_ (l_ (h:=w_ (le (h:=w_ (m_ (h:=zC (e_ (h:=zA (zG (?_)))))))))))))))
 refine qF (l_ep0 _ (by simp[zI])) ?_
 refine zT (zA (wa_ (zB (w_ (m_ (h:=w_ (cI (hc:=qAs) (hal:=rfl) (h:=zC (e_ (h:=zA (wa_ (zB (w_ (m_ (h:=w_ (caT0 (hc:=qI8) (h:=?_)))))))))))))))))
 refine w_ (a_ (h:=zC (e_ (h:=zA (zH (?_))))))
 all_goals (refine qZ (hr:=(zR rfl zO)) (h:=?_);(focus (first|(simp_all;done)|(simp_all<;>omega)|(simp_all<;>split<;>simp_all<;>omega))))
def mkI (k:Int) (n:Nat):List Int:=(List.range n).map fun(i:Nat)=>k+i
@[simp] theorem mkI_len {k:Int} {n:Nat}:(mkI k n).length=n:=by simp[mkI]
theorem kB {α:Type} {f g:α→V} (hf:∀x y,(f x).alike (g y)=true):∀{a b:List α},V.alikeL (a.map f) (b.map g)=decide (a.length=b.length)
 | [],[]=>rfl
 | [],_::_=>by simp[V.alikeL]
 | _::_,[]=>by simp[V.alikeL]
 | x::a,y::b=>by simp only[List.map_cons,V.alikeL,hf,Bool.true_and,kB hf (a:=a) (b:=b),List.length_cons,Nat.add_right_cancel_iff]
@[simp] theorem qF0 (a b:List Int):V.alikeL (ints a) (ints b)=decide (a.length=b.length):=kB (fun _ _=>rfl)
def qLa (x:Ct):Nat:=1+1+1
def zA2 (l:List Ct):Nat:=wS qLa l
def zXx (k:Int) (x:Ct):Ct:=⟨k,k+1,k+1+1⟩
@[simp] theorem mk_Ct_pl (k:Int) (x:Ct):(zXx k x).pl=k:=rfl
@[simp] theorem mk_Ct_ep (k:Int) (x:Ct):(zXx k x).ep=k+1:=rfl
@[simp] theorem mk_Ct_n (k:Int) (x:Ct):(zXx k x).n=k+1+1:=rfl
def zD5 (k:Int):List Ct→List Ct
 | []=>[]
 | x::r=>zXx k x::zD5 (k+(qLa x:Nat)) r
@[simp] theorem qEo {k:Int} {l:List Ct}:(zD5 k l).length=l.length:=by
 induction l generalizing k with
 | nil=>rfl
 | cons x r ih=>simp[zD5,ih]
@[simp] theorem qCn {k:Int} {l:List Ct}:(zD5 k l).take l.length=zD5 k l:=List.take_of_length_le (by simp)
@[simp] theorem qI7 (a b:List Ct):V.alikeL (cts a) (cts b)=decide (a.length=b.length):=kB (fun _ _=>rfl)
def cn_Nd (x:Nd):Nat:=1+1+1+1+1+1+x.cells.length
def zJs (k:Int) (x:Nd):Nd:=⟨k,k+1,k+1+1,k+1+1+1,k+1+1+1+1,k+1+1+1+1+1,mkI (k+1+1+1+1+1+1) x.cells.length⟩
@[simp] theorem mk_Nd_op (k:Int) (x:Nd):(zJs k x).op=k:=rfl
@[simp] theorem mk_Nd_a (k:Int) (x:Nd):(zJs k x).a=k+1:=rfl
@[simp] theorem mk_Nd_b (k:Int) (x:Nd):(zJs k x).b=k+1+1:=rfl
@[simp] theorem qFz (k:Int) (x:Nd):(zJs k x).col=k+1+1+1:=rfl
@[simp] theorem qF6 (k:Int) (x:Nd):(zJs k x).test=k+1+1+1+1:=rfl
@[simp] theorem qDc (k:Int) (x:Nd):(zJs k x).value=k+1+1+1+1+1:=rfl
@[simp] theorem qCz (k:Int) (x:Nd):(zJs k x).cells=mkI (k+1+1+1+1+1+1) x.cells.length:=rfl
def zLh (k:Int):List Nd→List Nd
 | []=>[]
 | x::r=>zJs k x::zLh (k+(cn_Nd x:Nat)) r
@[simp] theorem qDx {k:Int} {l:List Nd}:(zLh k l).length=l.length:=by
 induction l generalizing k with
 | nil=>rfl
 | cons x r ih=>simp[zLh,ih]
@[simp] theorem qDa {k:Int} {l:List Nd}:(zLh k l).take l.length=zLh k l:=List.take_of_length_le (by simp)
@[simp] theorem qFk (t u:Bool) (s z:Nat) (a b:List Nd):V.alikeL (nds t s a) (nds u z b)=decide (a.length=b.length):=kB (fun _ _=>rfl)
def qH7 (x:Et):Nat:=x.row.length+1
def yW (l:List Et):Nat:=wS qH7 l
def zZy (k:Int) (x:Et):Et:=⟨mkI (k) x.row.length,k+(x.row.length:Nat)⟩
@[simp] theorem qGe (k:Int) (x:Et):(zZy k x).row=mkI (k) x.row.length:=rfl
@[simp] theorem mk_Et_w (k:Int) (x:Et):(zZy k x).w=k+(x.row.length:Nat):=rfl
def xO (k:Int):List Et→List Et
 | []=>[]
 | x::r=>zZy k x::xO (k+(qH7 x:Nat)) r
@[simp] theorem qEm {k:Int} {l:List Et}:(xO k l).length=l.length:=by
 induction l generalizing k with
 | nil=>rfl
 | cons x r ih=>simp[xO,ih]
@[simp] theorem qBy {k:Int} {l:List Et}:(xO k l).take l.length=xO k l:=List.take_of_length_le (by simp)
@[simp] theorem qHm (t u:Bool) (a b:List Et):V.alikeL (ets t a) (ets u b)=decide (a.length=b.length):=kB (fun _ _=>rfl)
def qIe (x:Fr):Nat:=1+1+1+1+yW x.set+zA2 x.news
def vE (l:List Fr):Nat:=wS qIe l
def zMh (k:Int) (x:Fr):Fr:=⟨k,k+1,k+1+1,k+1+1+1,xO (k+1+1+1+1) x.set,zD5 (k+1+1+1+1+(yW x.set:Nat)) x.news⟩
@[simp] theorem qEg (k:Int) (x:Fr):(zMh k x).kind=k:=rfl
@[simp] theorem qF3 (k:Int) (x:Fr):(zMh k x).node=k+1:=rfl
@[simp] theorem qEk (k:Int) (x:Fr):(zMh k x).side=k+1+1:=rfl
@[simp] theorem mk_Fr_ep (k:Int) (x:Fr):(zMh k x).ep=k+1+1+1:=rfl
@[simp] theorem qGa (k:Int) (x:Fr):(zMh k x).set=xO (k+1+1+1+1) x.set:=rfl
@[simp] theorem qEa (k:Int) (x:Fr):(zMh k x).news=zD5 (k+1+1+1+1+(yW x.set:Nat)) x.news:=rfl
def zDv (k:Int):List Fr→List Fr
 | []=>[]
 | x::r=>zMh k x::zDv (k+(qIe x:Nat)) r
@[simp] theorem qE3 {k:Int} {l:List Fr}:(zDv k l).length=l.length:=by
 induction l generalizing k with
 | nil=>rfl
 | cons x r ih=>simp[zDv,ih]
@[simp] theorem qCl {k:Int} {l:List Fr}:(zDv k l).take l.length=zDv k l:=List.take_of_length_le (by simp)
@[simp] theorem qHp (t u:Bool) (a b:List Fr):V.alikeL (frs t a) (frs u b)=decide (a.length=b.length):=kB (fun _ _=>rfl)
def qKt (x:Bt):Nat:=1+1+yW x.set
def zU6 (l:List Bt):Nat:=wS qKt l
def zXc (k:Int) (x:Bt):Bt:=⟨k,k+1,xO (k+1+1) x.set⟩
@[simp] theorem qDt (k:Int) (x:Bt):(zXc k x).side=k:=rfl
@[simp] theorem mk_Bt_ep (k:Int) (x:Bt):(zXc k x).ep=k+1:=rfl
@[simp] theorem qGu (k:Int) (x:Bt):(zXc k x).set=xO (k+1+1) x.set:=rfl
def zFs (k:Int):List Bt→List Bt
 | []=>[]
 | x::r=>zXc k x::zFs (k+(qKt x:Nat)) r
@[simp] theorem qDy {k:Int} {l:List Bt}:(zFs k l).length=l.length:=by
 induction l generalizing k with
 | nil=>rfl
 | cons x r ih=>simp[zFs,ih]
@[simp] theorem qD2 {k:Int} {l:List Bt}:(zFs k l).take l.length=zFs k l:=List.take_of_length_le (by simp)
@[simp] theorem qL2 (t u:Bool) (a b:List Bt):V.alikeL (bts t a) (bts u b)=decide (a.length=b.length):=kB (fun _ _=>rfl)
def qFq (x:Hd):Nat:=yW x.oldA+yW x.oldB+zU6 x.waits+1
def zCu (l:List Hd):Nat:=wS qFq l
def zRy (k:Int) (x:Hd):Hd:=⟨xO (k) x.oldA,xO (k+(yW x.oldA:Nat)) x.oldB,zFs (k+(yW x.oldA:Nat)+(yW x.oldB:Nat)) x.waits,k+(yW x.oldA:Nat)+(yW x.oldB:Nat)+(zU6 x.waits:Nat)⟩
@[simp] theorem qEr (k:Int) (x:Hd):(zRy k x).oldA=xO (k) x.oldA:=rfl
@[simp] theorem qF5 (k:Int) (x:Hd):(zRy k x).oldB=xO (k+(yW x.oldA:Nat)) x.oldB:=rfl
@[simp] theorem qAa (k:Int) (x:Hd):(zRy k x).waits=zFs (k+(yW x.oldA:Nat)+(yW x.oldB:Nat)) x.waits:=rfl
@[simp] theorem qEf (k:Int) (x:Hd):(zRy k x).told=k+(yW x.oldA:Nat)+(yW x.oldB:Nat)+(zU6 x.waits:Nat):=rfl
def zF1 (k:Int):List Hd→List Hd
 | []=>[]
 | x::r=>zRy k x::zF1 (k+(qFq x:Nat)) r
@[simp] theorem qDs {k:Int} {l:List Hd}:(zF1 k l).length=l.length:=by
 induction l generalizing k with
 | nil=>rfl
 | cons x r ih=>simp[zF1,ih]
@[simp] theorem qBk {k:Int} {l:List Hd}:(zF1 k l).take l.length=zF1 k l:=List.take_of_length_le (by simp)
@[simp] theorem qHy (t u:Bool) (a b:List Hd):V.alikeL (hds t a) (hds u b)=decide (a.length=b.length):=kB (fun _ _=>rfl)
def qGs (x:Rl):Nat:=1+1+yW x.set
def zRc (l:List Rl):Nat:=wS qGs l
def zVq (k:Int) (x:Rl):Rl:=⟨k,k+1,xO (k+1+1) x.set⟩
@[simp] theorem qE2 (k:Int) (x:Rl):(zVq k x).node=k:=rfl
@[simp] theorem mk_Rl_ep (k:Int) (x:Rl):(zVq k x).ep=k+1:=rfl
@[simp] theorem qJu (k:Int) (x:Rl):(zVq k x).set=xO (k+1+1) x.set:=rfl
def zGh (k:Int):List Rl→List Rl
 | []=>[]
 | x::r=>zVq k x::zGh (k+(qGs x:Nat)) r
@[simp] theorem qF8 {k:Int} {l:List Rl}:(zGh k l).length=l.length:=by
 induction l generalizing k with
 | nil=>rfl
 | cons x r ih=>simp[zGh,ih]
@[simp] theorem qB4 {k:Int} {l:List Rl}:(zGh k l).take l.length=zGh k l:=List.take_of_length_le (by simp)
@[simp] theorem qG9 (t u:Bool) (a b:List Rl):V.alikeL (rls t a) (rls u b)=decide (a.length=b.length):=kB (fun _ _=>rfl)
def cn_Wk (x:Wk):Nat:=vE x.inbox+zA2 x.counts+zCu x.nodes+1+1+zRc x.outs+1
def zL9 (k:Int) (x:Wk):Wk:=⟨zDv (k) x.inbox,zD5 (k+(vE x.inbox:Nat)) x.counts,zF1 (k+(vE x.inbox:Nat)+(zA2 x.counts:Nat)) x.nodes,k+(vE x.inbox:Nat)+(zA2 x.counts:Nat)+(zCu x.nodes:Nat),k+(vE x.inbox:Nat)+(zA2 x.counts:Nat)+(zCu x.nodes:Nat)+1,zGh (k+(vE x.inbox:Nat)+(zA2 x.counts:Nat)+(zCu x.nodes:Nat)+1+1) x.outs,decide ((k+(vE x.inbox:Nat)+(zA2 x.counts:Nat)+(zCu x.nodes:Nat)+1+1+(zRc x.outs:Nat)).tmod 3=0)⟩
@[simp] theorem qCk (k:Int) (x:Wk):(zL9 k x).inbox=zDv (k) x.inbox:=rfl
@[simp] theorem zZg (k:Int) (x:Wk):(zL9 k x).counts=zD5 (k+(vE x.inbox:Nat)) x.counts:=rfl
@[simp] theorem qD1 (k:Int) (x:Wk):(zL9 k x).nodes=zF1 (k+(vE x.inbox:Nat)+(zA2 x.counts:Nat)) x.nodes:=rfl
@[simp] theorem mk_Wk_ep (k:Int) (x:Wk):(zL9 k x).ep=k+(vE x.inbox:Nat)+(zA2 x.counts:Nat)+(zCu x.nodes:Nat):=rfl
@[simp] theorem qHc (k:Int) (x:Wk):(zL9 k x).top=k+(vE x.inbox:Nat)+(zA2 x.counts:Nat)+(zCu x.nodes:Nat)+1:=rfl
@[simp] theorem qE0 (k:Int) (x:Wk):(zL9 k x).outs=zGh (k+(vE x.inbox:Nat)+(zA2 x.counts:Nat)+(zCu x.nodes:Nat)+1+1) x.outs:=rfl
@[simp] theorem qKu (k:Int) (x:Wk):(zL9 k x).bad=decide ((k+(vE x.inbox:Nat)+(zA2 x.counts:Nat)+(zCu x.nodes:Nat)+1+1+(zRc x.outs:Nat)).tmod 3=0):=rfl
def zJh (k:Int):List Wk→List Wk
 | []=>[]
 | x::r=>zL9 k x::zJh (k+(cn_Wk x:Nat)) r
@[simp] theorem qF7 {k:Int} {l:List Wk}:(zJh k l).length=l.length:=by
 induction l generalizing k with
 | nil=>rfl
 | cons x r ih=>simp[zJh,ih]
@[simp] theorem qCi {k:Int} {l:List Wk}:(zJh k l).take l.length=zJh k l:=List.take_of_length_le (by simp)
@[simp] theorem qJs (t u:Bool) (a b:List Wk):V.alikeL (wks t a) (wks u b)=decide (a.length=b.length):=kB (fun _ _=>rfl)
end Go.Proofs.YtbcgenkegnmkhaaGreat.Ev
namespace Go.Proofs.YtbcgenkegnmkhaaGreat.Ev
open Go
set_option maxRecDepth 100000
set_option linter.unusedSimpArgs false
set_option linter.unusedVariables false
set_option maxHeartbeats 2000000
def qK (op:Int):Nat→List Nd→List Int
 | _,[]=>[]
 | i,d::r=>if d.op=op then(i:Int)::qK op (i+1) r else qK op (i+1) r
theorem jZ {op:Int}:∀{l:List Nd} {i:Nat},(qK op i l).length≤l.length
 | [],i=>by simp[qK]
 | d::r,i=>by
  have:=jZ (op:=op) (l:=r) (i:=i+1)
  unfold qK
  split<;>simp<;>omega
theorem zAv {op:Int}:∀{l:List Nd} {i:Nat} {x:Int},x∈qK op i l→0≤x∧x<i+l.length
 | [],i,x,h=>by simp[qK] at h
 | d::r,i,x,h=>by
  unfold qK at h
  split at h
  ·rcases List.mem_cons.1 h with rfl|h
   ·simp;omega
   ·have:=zAv h;simp;omega
  ·have:=zAv h;simp;omega
theorem zXf (pl:List Nd) (op:Int) (hp:pl.length<2000000):∀x:Nat×(List Int),(x.1≤pl.length∧x.2.length≤x.1)→∀s,zI 2 (some [1,5,9,10,11]) s=⟨[(1,.int .i64 op),(5,.ref 2 0 x.2.length),(9,.lst false 0 (nds false 0 pl)),(10,.int .i64 pl.length),(11,.int .i64 x.1)],[(2,⟨false,false,1,ints x.2,0⟩)],3⟩ →
 oc.loop 139 3 s=some (.exit 0,⟨[(5,.ref 2 0 (x.2++qK op x.1 (pl.drop x.1)).length)],[(2,⟨false,false,1,ints (x.2++qK op x.1 (pl.drop x.1)),0⟩)],3⟩):=by
 refine zW (σ:=Nat×(List Int)) (fun x=>pl.length - x.1) _ (fun x=>⟨[(1,.int .i64 op),(5,.ref 2 0 x.2.length),(9,.lst false 0 (nds false 0 pl)),(10,.int .i64 pl.length),(11,.int .i64 x.1)],[(2,⟨false,false,1,ints x.2,0⟩)],3⟩) _ ?_
 rintro⟨i,out⟩ hi ih s hs
 simp only at hi
 refine qB qGz rfl rfl hs ?_
 obtain⟨hi,ho⟩:=hi
 refine wa_ (zB (w_ (b_ (h:=zC (e_ (h:=zA (wa_ (?_))))))))
 refine c_ (h1:=?_) (h2:=?_)
 rotate_right 1
 focus
  intro c1
  first
  | exact dn c1
  | (
   have d1:=c1;try simp at d1
   refine zX (?_)
   )
 rotate_right 1
 focus
  intro c1
  first
  | exact dn c1
  | (
   have d1:=c1;try simp at d1
   have hw:=zV (i:=i) (by omega);obtain⟨d,hx,e1,g1⟩:=zAm (t:=false) (s:=0) (l:=pl) (i:=i) (by omega)
   refine zD (?_)
   )
 all_goals first
 | refine zS ?_
 | (
  refine zA ?_
  refine wa_ (zG (wa_ (zB (w_ (m_ (h:=w_ (x_ (h:=w_ (l_ (h:=w_ (al (h:=w_ (a_ (h:=w0 (s_ (h:=zC (e_ (h:=zA (?_)))))))))))))))))))
  refine wa_ (zB (w_ (f_ (h:=w_ (l_ (h:=w_ (m_ (h:=w_ (bE (h:=zC (e_ (h:=zA (?_)))))))))))))
  refine c_ (h1:=?_) (h2:=?_)
  rotate_right 1
  focus
   intro c2
   first
   | exact dn c2
   | (
    have d2:=c2;try simp at d2
    refine zD (?_)
    )
  rotate_right 1
  focus
   intro c2
   first
   | exact dn c2
   | (
    have d2:=c2;try simp at d2
    refine zB (w_ (m_ (h:=w_ (m_ (h:=w_ (bs (h:=w_ (ap (h:=w_ (a_ (h:=zC (e_ (h:=?_)))))))))))))
    )
  all_goals refine zJ ?_
  all_goals first
  | (
   refine zA ?_
   refine zB (w_ (b_ (h:=w_ (m_ (h:=zC (e_ (h:=?_)))))))
   )
  )
 all_goals first
 | (refine(ih ((i+1,out++[(i:Int)])) (⟨by simp;omega,by simp;omega⟩) ?_ _ ?_).trans ?_;(focus (first|omega|(simp;done)|(simp;omega)));(focus (simp[zI,hw];done));(focus (rw[e1,qK,if_pos (by simpa using d2)];simp)))
 | (refine(ih ((i+1,out)) (⟨by simp;omega,by simp;omega⟩) ?_ _ ?_).trans ?_;(focus (first|omega|(simp;done)|(simp;omega)));(focus (simp[zI,hw];done));(focus (rw[e1,qK,if_neg (by simpa using d2)])))
 | (apply zM (ex:=(Ext.exit 0)) 2 (some [5]);(focus (simp[zI];rfl));(focus (rw[List.drop_eq_nil_of_le (by omega)];simp[qK])))
theorem zY4 (pl:List Nd) (op:Int) (hp:pl.length<2000000):oc.call 139 [.lst false 0 (nds false 0 pl),.int .i64 op]=some (.lst true 1 (ints (qK op 0 pl)),[]):=by
 refine qD rfl qGz rfl rfl rfl (by simp;rfl) (by simp;rfl) ?_
 refine wa_ (zB (w_ (aN (h:=zC (e_ (h:=zA (wa_ (zB (w_ (bs (h:=w_ (a_ (h:=zC (e_ (h:=zA (wa_ (?_)))))))))))))))))
 refine wa_ (zB (w_ (m_ (h:=w_ (le (h:=w_ (m_ (h:=zC (e_ (h:=zA (zG (?_))))))))))))
 refine qF (zXf pl op hp (0,[]) (by simp) _ (by simp[zI])) ?_
 refine zT (zA (wa_ (zB (w_ (m_ (h:=w_ (a_ (h:=zC (e_ (h:=zA (zH (?_))))))))))))
 all_goals (refine qZ (hr:=(zR rfl zO)) (h:=?_);(focus (first|(simp_all;done)|(simp_all<;>omega)|(simp_all<;>split<;>simp_all<;>omega))))
theorem zXr (pl:List Nd) (op:Int) (hp:pl.length<2000000):∀x:Nat×(List Int),(x.1≤pl.length∧x.2.length≤x.1)→∀s,zI 2 (some [0,1,5,6]) s=⟨[(0,.lst false 0 (nds false 0 pl)),(1,.int .i64 op),(5,.ref 2 0 x.2.length),(6,.int .i64 x.1)],[(2,⟨false,false,1,ints x.2,0⟩)],3⟩ →
 oc.loop 136 3 s=some (.exit 0,⟨[(5,.ref 2 0 (x.2++qK op x.1 (pl.drop x.1)).length)],[(2,⟨false,false,1,ints (x.2++qK op x.1 (pl.drop x.1)),0⟩)],3⟩):=by
 refine zW (σ:=Nat×(List Int)) (fun x=>pl.length - x.1) _ (fun x=>⟨[(0,.lst false 0 (nds false 0 pl)),(1,.int .i64 op),(5,.ref 2 0 x.2.length),(6,.int .i64 x.1)],[(2,⟨false,false,1,ints x.2,0⟩)],3⟩) _ ?_
 rintro⟨i,out⟩ hi ih s hs
 simp only at hi
 refine qB qL5 rfl rfl hs ?_
 obtain⟨hi,ho⟩:=hi
 refine wa_ (wa_ (zB (w_ (m_ (h:=w_ (m_ (h:=w_ (le (h:=w_ (b_ (h:=zC (e_ (h:=zA (?_))))))))))))))
 refine c_ (h1:=?_) (h2:=?_)
 rotate_right 1
 focus
  intro c1
  first
  | exact dn c1
  | (
   have d1:=c1;try simp at d1
   refine zX (?_)
   )
 rotate_right 1
 focus
  intro c1
  first
  | exact dn c1
  | (
   have d1:=c1;try simp at d1
   have hw:=zV (i:=i) (by omega);obtain⟨d,hx,e1,g1⟩:=zAm (t:=false) (s:=0) (l:=pl) (i:=i) (by omega)
   refine zD (?_)
   )
 all_goals first
 | refine zS ?_
 | (
  refine zA ?_
  refine wa_ (zG (wa_ (zB (w_ (m_ (h:=w_ (m_ (h:=w_ (x_ (h:=w_ (f_ (h:=w_ (l_ (h:=w_ (m_ (h:=w_ (bE (h:=zC (e_ (h:=?_))))))))))))))))))))
  refine zA (?_)
  refine c_ (h1:=?_) (h2:=?_)
  rotate_right 1
  focus
   intro c2
   first
   | exact dn c2
   | (
    have d2:=c2;try simp at d2
    refine zD (?_)
    )
  rotate_right 1
  focus
   intro c2
   first
   | exact dn c2
   | (
    have d2:=c2;try simp at d2
    refine zB (w_ (m_ (h:=w_ (m_ (h:=w_ (bs (h:=w_ (ap (h:=w_ (a_ (h:=zC (e_ (h:=?_)))))))))))))
    )
  all_goals refine zJ ?_
  all_goals first
  | (
   refine zA ?_
   refine zB (w_ (m_ (h:=w_ (b_ (h:=w_ (a_ (h:=zC (e_ (h:=?_)))))))))
   )
  )
 all_goals first
 | (refine(ih ((i+1,out++[(i:Int)])) (⟨by simp;omega,by simp;omega⟩) ?_ _ ?_).trans ?_;(focus (first|omega|(simp;done)|(simp;omega)));(focus (simp[zI,hw];done));(focus (rw[e1,qK,if_pos (by simpa using d2)];simp)))
 | (refine(ih ((i+1,out)) (⟨by simp;omega,by simp;omega⟩) ?_ _ ?_).trans ?_;(focus (first|omega|(simp;done)|(simp;omega)));(focus (simp[zI,hw];done));(focus (rw[e1,qK,if_neg (by simpa using d2)])))
 | (apply zM (ex:=(Ext.exit 0)) 2 (some [5]);(focus (simp[zI];rfl));(focus (rw[List.drop_eq_nil_of_le (by omega)];simp[qK])))
theorem zWo (pl:List Nd) (op:Int) (hp:pl.length<2000000):oc.call 136 [.lst false 0 (nds false 0 pl),.int .i64 op]=some (.lst true 1 (ints (qK op 0 pl)),[]):=by
 refine qD rfl qL5 rfl rfl rfl (by simp;rfl) (by simp;rfl) ?_
 refine wa_ (zB (w_ (aN (h:=zC (e_ (h:=zA (wa_ (zB (w_ (bs (h:=w_ (a_ (h:=zC (e_ (h:=zA (wa_ (?_)))))))))))))))))
 refine wa_ (zB (w_ (a_ (h:=zC (e_ (h:=zA (zG (?_))))))))
 refine qF (zXr pl op hp (0,[]) (by simp) _ (by simp[zI])) ?_
 refine zT (zA (wa_ (zB (w_ (m_ (h:=w_ (a_ (h:=zC (e_ (h:=zA (zH (?_))))))))))))
 all_goals (refine qZ (hr:=(zR rfl zO)) (h:=?_);(focus (first|(simp_all;done)|(simp_all<;>omega)|(simp_all<;>split<;>simp_all<;>omega))))
def qG (w x:Int):Ct:=⟨2 * x+1,0,w⟩
theorem zXg (ns:List Int) (w:Int) (hl:ns.length<2000000) (hm:∀x∈ns,0≤x∧x<2000000):∀x:Nat×(List Ct),(x.1≤ns.length∧x.2.length≤x.1)→∀s,zI 2 (some [1,5,10,11,12]) s=⟨[(1,.int .i64 w),(5,.ref 2 0 x.2.length),(10,.ref 3 0 ns.length),(11,.int .i64 ns.length),(12,.int .i64 x.1)],[(2,⟨false,false,3,cts x.2,0⟩),(3,⟨false,false,1,ints ns,0⟩)],4⟩ →
 oc.loop 70 3 s=some (.exit 0,⟨[(5,.ref 2 0 (x.2++(ns.drop x.1).map (qG w)).length)],[(2,⟨false,false,3,cts (x.2++(ns.drop x.1).map (qG w)),0⟩)],3⟩):=by
 refine zW (σ:=Nat×(List Ct)) (fun x=>ns.length - x.1) _ (fun x=>⟨[(1,.int .i64 w),(5,.ref 2 0 x.2.length),(10,.ref 3 0 ns.length),(11,.int .i64 ns.length),(12,.int .i64 x.1)],[(2,⟨false,false,3,cts x.2,0⟩),(3,⟨false,false,1,ints ns,0⟩)],4⟩) _ ?_
 rintro⟨i,out⟩ hi ih s hs
 simp only at hi
 refine qB cd70 rfl rfl hs ?_
 obtain⟨hi,ho⟩:=hi
 refine wa_ (zB (w_ (b_ (h:=zC (e_ (h:=zA (wa_ (?_))))))))
 refine c_ (h1:=?_) (h2:=?_)
 rotate_right 1
 focus
  intro c1
  first
  | exact dn c1
  | (
   have d1:=c1;try simp at d1
   refine zX (?_)
   )
 rotate_right 1
 focus
  intro c1
  first
  | exact dn c1
  | (
   have d1:=c1;try simp at d1
   have hw:=zV (i:=i) (by omega);obtain⟨x,hx,e1,g1⟩:=kU (l:=ns) (i:=i) (by omega);have g2:(ints ns)[i]? = some (.int .i64 x):=(by simpa using g1);obtain⟨b1,b2⟩:=hm x (List.mem_of_getElem? hx);have hw2:IntKind.i64.wrap (2 * x)=2 * x:=qH (by omega) (by omega);have hw3:IntKind.i64.wrap (2 * x+1)=2 * x+1:=qH (by omega) (by omega)
   refine zD (?_)
   )
 all_goals first
 | refine zS ?_
 | (
  refine zA ?_
  refine wa_ (zG (wa_ (zB (w_ (x_ (h:=w_ (l_ (h:=w_ (a_ (h:=zC (e_ (h:=zA (zB (w_ (m_ (h:=w_ (m_ (h:=?_))))))))))))))))))
  refine w_ (b_ (h:=w_ (b_ (h:=w_ (m_ (h:=w_ (bd (h:=w_ (bs (h:=w_ (ap (h:=w_ (a_ (h:=zC (e_ (h:=zJ (zA (zB (w_ (b_ (h:=?_)))))))))))))))))))))
  refine w_ (m_ (h:=zC (e_ (h:=?_))))
  )
 all_goals first
 | (refine(ih ((i+1,out++[qG w x])) (⟨by simp;omega,by simp;omega⟩) ?_ _ ?_).trans ?_;(focus (first|omega|(simp;done)|(simp;omega)));(focus (simp[zI,hw,hw2,hw3,qG];done));(focus (rw[e1];simp[qG])))
 | (apply zM (ex:=(Ext.exit 0)) 2 (some [5]);(focus (simp[zI];rfl));(focus (rw[List.drop_eq_nil_of_le (by omega)];simp)))
theorem zVx (pl:List Nd) (w:Int) (hp:pl.length<2000000):oc.call 70 [.lst false 0 (nds false 0 pl),.int .i64 w]=some (.lst true 3 (cts ((qK 1 0 pl).map (qG w))),[]):=by
 refine qD rfl cd70 rfl rfl rfl (by simp;rfl) (by simp;rfl) ?_
 have hl:=jZ (op:=1) (l:=pl) (i:=0)
 refine wa_ (zB (w_ (aN (h:=zC (e_ (h:=zA (wa_ (zB (w_ (bs (h:=w_ (a_ (h:=zC (e_ (h:=zA (wa_ (?_)))))))))))))))))
 refine wa_ (zB (w_ (m_ (h:=w_ (ca (hc:=zY4 pl 1 hp) (h:=w_ (le (h:=w_ (m_ (h:=zC (e_ (h:=zA (zG (?_))))))))))))))
 refine qF (zXg (qK 1 0 pl) w (by omega) (fun x hx=>by have:=zAv hx;omega) (0,[]) (by simp) _ (by simp[zI])) ?_
 refine zT (zA (wa_ (zB (w_ (m_ (h:=w_ (a_ (h:=zC (e_ (h:=zA (zH (?_))))))))))))
 all_goals (refine qZ (hr:=(zR rfl zO)) (h:=?_);(focus (simp[List.take_of_length_le])))
theorem zXt (ns:List Int) (w:Int) (hl:ns.length<2000000) (hm:∀x∈ns,0≤x∧x<2000000):∀x:Nat×(List Ct),(x.1≤ns.length∧x.2.length≤x.1)→∀s,zI 2 (some [1,5,6,7]) s=⟨[(1,.int .i64 w),(5,.ref 2 0 x.2.length),(6,.ref 3 0 ns.length),(7,.int .i64 x.1)],[(2,⟨false,false,3,cts x.2,0⟩),(3,⟨false,false,1,ints ns,0⟩)],4⟩ →
 oc.loop 67 4 s=some (.exit 0,⟨[(5,.ref 2 0 (x.2++(ns.drop x.1).map (qG w)).length)],[(2,⟨false,false,3,cts (x.2++(ns.drop x.1).map (qG w)),0⟩)],3⟩):=by
 refine zW (σ:=Nat×(List Ct)) (fun x=>ns.length - x.1) _ (fun x=>⟨[(1,.int .i64 w),(5,.ref 2 0 x.2.length),(6,.ref 3 0 ns.length),(7,.int .i64 x.1)],[(2,⟨false,false,3,cts x.2,0⟩),(3,⟨false,false,1,ints ns,0⟩)],4⟩) _ ?_
 rintro⟨i,out⟩ hi ih s hs
 simp only at hi
 refine qB cd67 rfl rfl hs ?_
 obtain⟨hi,ho⟩:=hi
 refine wa_ (wa_ (zB (w_ (m_ (h:=w_ (m_ (h:=w_ (le (h:=w_ (b_ (h:=zC (e_ (h:=zA (?_))))))))))))))
 refine c_ (h1:=?_) (h2:=?_)
 rotate_right 1
 focus
  intro c1
  first
  | exact dn c1
  | (
   have d1:=c1;try simp at d1
   refine zX (?_)
   )
 rotate_right 1
 focus
  intro c1
  first
  | exact dn c1
  | (
   have d1:=c1;try simp at d1
   have hw:=zV (i:=i) (by omega);obtain⟨x,hx,e1,g1⟩:=kU (l:=ns) (i:=i) (by omega);have g2:(ints ns)[i]? = some (.int .i64 x):=(by simpa using g1);obtain⟨b1,b2⟩:=hm x (List.mem_of_getElem? hx);have hw2:IntKind.i64.wrap (2 * x)=2 * x:=qH (by omega) (by omega);have hw3:IntKind.i64.wrap (2 * x+1)=2 * x+1:=qH (by omega) (by omega)
   refine zD (?_)
   )
 all_goals first
 | refine zS ?_
 | (
  refine zA ?_
  refine wa_ (zG (zB (w_ (m_ (h:=w_ (m_ (h:=w_ (m_ (h:=w_ (x_ (h:=w_ (l_ (h:=w_ (b_ (h:=w_ (b_ (h:=w_ (m_ (h:=w_ (bd (h:=?_)))))))))))))))))))))
  refine w_ (bs (h:=w_ (ap (h:=w_ (a_ (h:=zC (e_ (h:=zJ (zA (zB (w_ (m_ (h:=w_ (b_ (h:=w_ (a_ (h:=zC (e_ (h:=?_)))))))))))))))))))
  )
 all_goals first
 | (refine(ih ((i+1,out++[qG w x])) (⟨by simp;omega,by simp;omega⟩) ?_ _ ?_).trans ?_;(focus (first|omega|(simp;done)|(simp;omega)));(focus (simp[zI,hw,hw2,hw3,qG];done));(focus (rw[e1];simp[qG])))
 | (apply zM (ex:=(Ext.exit 0)) 2 (some [5]);(focus (simp[zI];rfl));(focus (rw[List.drop_eq_nil_of_le (by omega)];simp)))
theorem zXv (pl:List Nd) (w:Int) (hp:pl.length<2000000):oc.call 67 [.lst false 0 (nds false 0 pl),.int .i64 w]=some (.lst true 3 (cts ((qK 1 0 pl).map (qG w))),[]):=by
 refine qD rfl cd67 rfl rfl rfl (by simp;rfl) (by simp;rfl) ?_
 have hl:=jZ (op:=1) (l:=pl) (i:=0)
 refine wa_ (zB (w_ (aN (h:=zC (e_ (h:=zA (wa_ (zB (w_ (bs (h:=w_ (a_ (h:=zC (e_ (h:=zA (wa_ (?_)))))))))))))))))
 refine zB (w_ (m_ (h:=w_ (ca (hc:=zWo pl 1 hp) (h:=w_ (a_ (h:=zC (e_ (h:=zA (wa_ (wa_ (zB (w_ (a_ (h:=zC (e_ (h:=zA (?_))))))))))))))))))
 refine zG (?_)
 refine qF (zXt (qK 1 0 pl) w (by omega) (fun x hx=>by have:=zAv hx;omega) (0,[]) (by simp) _ (by simp[zI])) ?_
 refine zT (zA (wa_ (zB (w_ (m_ (h:=w_ (a_ (h:=zC (e_ (h:=zA (zH (?_))))))))))))
 all_goals (refine qZ (hr:=(zR rfl zO)) (h:=?_);(focus (simp[List.take_of_length_le])))
def xR (pl:List Nd) (w:Int):Int×List Ct:=if(jS pl).2≠0 then((jS pl).2,[]) else if inI w 1 3=true then(0,(qK 1 0 pl).map (qG w)) else(3,[])
@[simp] abbrev crv (r:Int×List Ct):V:=.agg [.int .i64 r.1,.lst true 3 (cts r.2)]
theorem zKb (pl:List Nd) (w:Int) (hp:pl.length<2000000) (hk:okN pl):oc.call 20 [.lst false 0 (nds false 0 pl),.int .i64 w]=some (crv (xR pl w),[]):=by
 refine qD rfl cd20 rfl rfl rfl (by simp;rfl) (by simp;rfl) ?_
 refine wa_ (zB (w_ (al (h:=zC (e_ (h:=zA (wa_ (wa_ (zB (w_ (m_ (h:=w_ (ca (hc:=qBz pl hp hk) (h:=w_ (a_ (h:=zC (e_ (h:=?_))))))))))))))))))
 refine zA (wa_ (zB (w_ (m_ (h:=w_ (bE (h:=zC (e_ (h:=zA (?_))))))))))
 refine c_ (h1:=?_) (h2:=?_)
 rotate_right 1
 focus
  intro c1
  first
  | exact dn c1
  | (
   have d1:=c1;try simp at d1
   refine zD (?_)
   )
 rotate_right 1
 focus
  intro c1
  first
  | exact dn c1
  | (
   have d1:=c1;try simp at d1
   refine wa_ (zB (w_ (m_ (h:=w_ (bd (h:=w0 (s_ (h:=zC (e_ (h:=zA (zH (?_))))))))))))
   )
 all_goals first
 | refine zL ?_
 | (
  refine zA ?_
  refine wa_ (wa_ (zB (w_ (m_ (h:=w_ (ca (hc:=zDz _ _ _) (h:=w_ (u_ (h:=zC (e_ (h:=zA (?_))))))))))))
  refine c_ (h1:=?_) (h2:=?_)
  rotate_right 1
  focus
   intro c2
   first
   | exact dn c2
   | (
    have d2:=c2;try simp at d2
    refine zD (?_)
    )
  rotate_right 1
  focus
   intro c2
   first
   | exact dn c2
   | (
    have d2:=c2;try simp at d2
    refine wa_ (zB (w_ (bd (h:=w0 (s_ (h:=zC (e_ (h:=zA (zH (?_))))))))))
    )
  all_goals first
  | refine zL ?_
  | (
   refine zA ?_
   refine wa_ (zB (w_ (m_ (h:=w_ (m_ (h:=w_ (ca (hc:=zVx pl w hp) (h:=w_ (bd (h:=w0 (s_ (h:=zC (e_ (h:=zA (zH (?_))))))))))))))))
   )
  )
 all_goals (refine qZ (hr:=(vA (tys_ok.zero _ _ rfl) rfl (by simp;rfl) (by rfl) zO)) (h:=?_);(focus (clear hk;simp only[xR,crv];(repeat' split)<;>simp_all [List.take_of_length_le])))
theorem zY2 {α:Type} {f:α→Nat} {c:Nat} {l:List α} (h:∀x∈l,f x≤c):wS f l≤l.length * c:=by
 induction l with
 | nil=>simp
 | cons x r ih =>
  have h1:=h x (List.mem_cons_self ..)
  have h2:=ih (fun y hy=>h y (List.mem_cons_of_mem _ hy))
  simp only[vR,List.length_cons,Nat.succ_mul]
  omega
@[simp] abbrev crF (r:Int×List Ct):V:=.agg [.int .i64 r.1,.lst false 0 (cts r.2)]
end Go.Proofs.YtbcgenkegnmkhaaGreat.Ev
namespace Go.Proofs.YtbcgenkegnmkhaaGreat.Ev
open Go
set_option maxRecDepth 100000
set_option linter.unusedSimpArgs false
set_option linter.unusedVariables false
set_option maxHeartbeats 2000000
theorem zUz {pl:List Nd}:∀{l:List Ct} {p:Option Ct},(∀x∈l,yY pl x=true∧x.n≠0)→l.Pairwise (fun x y=>ltC x y=true)→(∀q,p=some q→∀x∈l,ltC q x=true)→zN5 pl p l=0
 | [],_,_,_,_=>rfl
 | c::r,p,h,h2,h3=>by
  obtain⟨a,b⟩:=List.pairwise_cons.1 h2
  obtain⟨c1,c2⟩:=h c (List.mem_cons_self ..)
  rw[zYk (by simp[c1,c2])]
  ·exact zUz (fun x hx=>h x (List.mem_cons_of_mem _ hx)) b (fun q hq x hx=>by cases hq;exact a x hx)
  ·cases p with
   | none=>simp
   | some q=>simp[zVe,h3 q rfl c (List.mem_cons_self ..)]
end Go.Proofs.YtbcgenkegnmkhaaGreat.Ev
namespace Go.Proofs.YtbcgenkegnmkhaaGreat.Ev
open Go
set_option maxRecDepth 100000
set_option linter.unusedSimpArgs false
set_option linter.unusedVariables false
set_option maxHeartbeats 2000000
def zFv (k:Int):List (List Fr)→List (List Fr)
 | []=>[]
 | x::r=>zDv k x::zFv (k+(vE x:Nat)) r
@[simp] theorem qCx {k:Int} {l:List (List Fr)}:(zFv k l).length=l.length:=by
 induction l generalizing k with
 | nil=>rfl
 | cons x r ih=>simp[zFv,ih]
@[simp] theorem zYe {k:Int} {l:List (List Fr)}:(zFv k l).take l.length=zFv k l:=List.take_of_length_le (by simp)
theorem c1_N (l:List Nd) (hl:l.length<2000000) (h:l≠[]):zA6 oc cf 135 [.lst false 0 (nds false 0 l)]=some (.lst true 7 (nds false 0 l),[]):=by
 refine zGq qCw rfl rfl rfl (by first|(simp;rfl)|rfl) (by first|(simp;rfl)|rfl) ?_
 have hne:nds false 0 l≠[]:=by simpa [nds] using h
 refine wa_ (zB (w_ (aN (h:=zC (e_ (h:=zA (wa_ (wa_ (zB (w_ (m_ (h:=w_ (bN (h:=zC (e_ (h:=zA (?_)))))))))))))))))
 refine c_ (h1:=?_) (h2:=?_)
 rotate_right 1
 focus
  intro c1
  refine zD (?_)
 rotate_right 1
 focus
  intro c1
  refine wa_ (zB (w_ (aN (h:=zC (e_ (h:=zA (zH (?_))))))))
 all_goals first
 | refine zL ?_
 | (
  refine zA ?_
  refine wa_ (zB (w_ (bs (h:=w_ (m_ (h:=w_ (ap (h:=w_ (a_ (h:=zC (e_ (h:=zA (zH (?_))))))))))))))
  )
 all_goals (refine qZ (hr:=(zR rfl zO)) (h:=?_);(focus (first|(simp_all;done)|(simp_all<;>omega)|(simp_all<;>split<;>simp_all<;>omega))))
theorem c2_N :zA6 oc cf 135 [.emp true]=some (.lst true 7 [],[]):=by
 refine zGq qCw rfl rfl rfl (by first|(simp;rfl)|rfl) (by first|(simp;rfl)|rfl) ?_
 refine wa_ (zB (w_ (aN (h:=zC (e_ (h:=zA (wa_ (wa_ (zB (w_ (m_ (h:=w_ (bN (h:=zC (e_ (h:=zA (?_)))))))))))))))))
 refine c_ (h1:=?_) (h2:=?_)
 rotate_right 1
 focus
  intro c1
  first
  | exact dn c1
  | (
   have d1:=c1;try simp at d1
   refine zD (?_)
   )
 rotate_right 1
 focus
  intro c1
  first
  | exact dn c1
  | (
   have d1:=c1;try simp at d1
   refine wa_ (zB (w_ (aN (h:=zC (e_ (h:=zA (zH (?_))))))))
   )
 all_goals first
 | refine zL ?_
 | (
  refine zA ?_
  refine wa_ (zB (w_ (bs (h:=w_ (m_ (h:=w_ (ap (h:=w_ (a_ (h:=zC (e_ (h:=zA (zH (?_))))))))))))))
  )
 all_goals (refine qZ (hr:=(zR rfl zO)) (h:=?_);(focus (first|(simp_all;done)|(simp_all<;>omega)|(simp_all<;>split<;>simp_all<;>omega))))
theorem c3_N :zA6 oc cf 135 [.emp false]=some (.lst true 7 [],[]):=by
 refine zGq qCw rfl rfl rfl (by first|(simp;rfl)|rfl) (by first|(simp;rfl)|rfl) ?_
 refine wa_ (zB (w_ (aN (h:=zC (e_ (h:=zA (wa_ (wa_ (zB (w_ (m_ (h:=w_ (bN (h:=zC (e_ (h:=zA (?_)))))))))))))))))
 refine c_ (h1:=?_) (h2:=?_)
 rotate_right 1
 focus
  intro c1
  first
  | exact dn c1
  | (
   have d1:=c1;try simp at d1
   refine zD (?_)
   )
 rotate_right 1
 focus
  intro c1
  first
  | exact dn c1
  | (
   have d1:=c1;try simp at d1
   refine wa_ (zB (w_ (aN (h:=zC (e_ (h:=zA (zH (?_))))))))
   )
 all_goals first
 | refine zL ?_
 | (
  refine zA ?_
  refine wa_ (zB (w_ (bs (h:=w_ (m_ (h:=w_ (ap (h:=w_ (a_ (h:=zC (e_ (h:=zA (zH (?_))))))))))))))
  )
 all_goals (refine qZ (hr:=(zR rfl zO)) (h:=?_);(focus (first|(simp_all;done)|(simp_all<;>omega)|(simp_all<;>split<;>simp_all<;>omega))))
theorem zVw (l:List Nd) (hl:l.length<2000000):oc.call 135 [.lst false 0 (nds false 0 l)]=some (.lst true 7 (nds false 0 l),[]) :=
 qA0 rfl (fun h=>c1_N l hl (by rintro rfl;exact h rfl)) (fun h=>by have:l=[]:=(by simpa [nds] using h);subst this;exact c2_N) (fun h=>by have:l=[]:=(by simpa [nds] using h);subst this;exact c3_N)
end Go.Proofs.YtbcgenkegnmkhaaGreat.Ev
namespace Go.Proofs.YtbcgenkegnmkhaaGreat.Ev
open Go
set_option maxRecDepth 100000
set_option linter.unusedSimpArgs false
set_option linter.unusedVariables false
set_option maxHeartbeats 2000000
section
variable {call : Call} {id base : Nat} {e : List (Nat × V)} {o : List (Nat × Ob)} {n : Nat} {t : TypeId} {K : V→List (Nat × Ob)→Prop}
theorem sR {x y:Operand} {z e0 e1 old:V} {t':TypeId} {q j o2 m:Nat} {fs:List Nat} {ob ob2:Ob} {o1:List (Nat×Ob)} {ws:List V} (hz:cf.zero t'=some z:=by exact tys_ok.zero _ _ rfl) (hx:opV e x=some (.ptr q j fs):=by exact rfl) (hy:opV e y=some (.ref o2 0 m):=by exact rfl) (ho:zN o q=some ob:=by exact rfl) (hb:ob.bx=false:=by rfl) (hg:ob.xs[j]? = some e0:=by first|assumption|exact zHn (by assumption)) (hgf:jR e0 fs=some old:=by exact rfl) (hal:old.alike (.ref o2 0 m)=true:=by rfl) (hzal:z.alike (.ref o2 0 m)=true:=by rfl)
  (h2:zN o o2=some ob2:=by exact rfl) (hb2:ob2.bx=false:=by rfl) (hf2:ob2.fx=false:=by rfl) (hm:m=ob2.xs.length:=by first|rfl|simp) (hd:jU o o2=o1:=by(simp;rfl)) (hq1:zN o1 q=some ob:=by exact rfl) (hs:zBz e0 fs (.lst true ob2.sz ob2.xs)=some e1:=by exact rfl) (hal2:old.alike (.lst true ob2.sz ob2.xs)=true:=by rfl) (hw:ob.xs.set j e1=ws:=by(try simp only[List.set_set]);rfl)
  (h:K .und ((q,⟨ob.bx,ob.fx,ob.sz,ws,ob.ver+1⟩)::o1)):opK call cf id base e o n t (.store t' x y) K:=by
 subst hd hm hw
 refine⟨_,_,?_,h⟩
 have hgive:St.give ⟨e,o,n⟩ o2 0 ob2.xs.length=some (ob2.sz,ob2.xs,⟨e,jU o o2,n⟩):=by
  simp only[St.give,h2,hb2,hf2,Nat.zero_add,Nat.le_refl,and_self,if_true,List.drop_zero,List.take_length]
 have hfz:V.fz (.ref o2 0 ob2.xs.length) ⟨e,o,n⟩=some (.lst true ob2.sz ob2.xs,⟨e,jU o o2,n⟩):=by
  simp only[V.fz,hgive,zK]
 have hget:ob.get j fs=some old:=by simp only[Ob.get,hg,hgf]
 have hset:ob.set j fs (.lst true ob2.sz ob2.xs)=some { ob with xs:=ob.xs.set j e1 }:=by simp only[Ob.set,hg,hs,zK]
 have hsc:V.scal (.ref o2 0 ob2.xs.length)=false:=rfl
 simp only[opE,hz,hx,hy,yI,ho,hget,hal,hzal,and_self,if_true,hb,Bool.false_eq_true,if_false,hfz,hq1,hal2,hset,zK,hsc,Bool.and_false,yH]
end
@[simp] theorem Nd.ne_undN (t:Bool) (s:Nat) (x:Nd):(x.v t s=V.und)=False:=by simp[Nd.v]
theorem c1_C (l:List Ct) (hl:l.length<2000000) (h:l≠[]):zA6 oc cf 65 [.lst false 0 (cts l)]=some (.lst true 3 (cts l),[]):=by
 refine zGq cd65 rfl rfl rfl (by first|(simp;rfl)|rfl) (by first|(simp;rfl)|rfl) ?_
 have hne:cts l≠[]:=by simpa [cts] using h
 refine wa_ (zB (w_ (aN (h:=zC (e_ (h:=zA (wa_ (wa_ (zB (w_ (m_ (h:=w_ (bN (h:=zC (e_ (h:=zA (?_)))))))))))))))))
 refine c_ (h1:=?_) (h2:=?_)
 rotate_right 1
 focus
  intro c1
  refine zD (?_)
 rotate_right 1
 focus
  intro c1
  refine wa_ (zB (w_ (aN (h:=zC (e_ (h:=zA (zH (?_))))))))
 all_goals first
 | refine zL ?_
 | (
  refine zA ?_
  refine wa_ (zB (w_ (bs (h:=w_ (m_ (h:=w_ (ap (h:=w_ (a_ (h:=zC (e_ (h:=zA (zH (?_))))))))))))))
  )
 all_goals (refine qZ (hr:=(zR rfl zO)) (h:=?_);(focus (first|(simp_all;done)|(simp_all<;>omega)|(simp_all<;>split<;>simp_all<;>omega))))
theorem c2_C :zA6 oc cf 65 [.emp true]=some (.lst true 3 [],[]):=by
 refine zGq cd65 rfl rfl rfl (by first|(simp;rfl)|rfl) (by first|(simp;rfl)|rfl) ?_
 refine wa_ (zB (w_ (aN (h:=zC (e_ (h:=zA (wa_ (wa_ (zB (w_ (m_ (h:=w_ (bN (h:=zC (e_ (h:=zA (?_)))))))))))))))))
 refine c_ (h1:=?_) (h2:=?_)
 rotate_right 1
 focus
  intro c1
  first
  | exact dn c1
  | (
   have d1:=c1;try simp at d1
   refine zD (?_)
   )
 rotate_right 1
 focus
  intro c1
  first
  | exact dn c1
  | (
   have d1:=c1;try simp at d1
   refine wa_ (zB (w_ (aN (h:=zC (e_ (h:=zA (zH (?_))))))))
   )
 all_goals first
 | refine zL ?_
 | (
  refine zA ?_
  refine wa_ (zB (w_ (bs (h:=w_ (m_ (h:=w_ (ap (h:=w_ (a_ (h:=zC (e_ (h:=zA (zH (?_))))))))))))))
  )
 all_goals (refine qZ (hr:=(zR rfl zO)) (h:=?_);(focus (first|(simp_all;done)|(simp_all<;>omega)|(simp_all<;>split<;>simp_all<;>omega))))
theorem c3_C :zA6 oc cf 65 [.emp false]=some (.lst true 3 [],[]):=by
 refine zGq cd65 rfl rfl rfl (by first|(simp;rfl)|rfl) (by first|(simp;rfl)|rfl) ?_
 refine wa_ (zB (w_ (aN (h:=zC (e_ (h:=zA (wa_ (wa_ (zB (w_ (m_ (h:=w_ (bN (h:=zC (e_ (h:=zA (?_)))))))))))))))))
 refine c_ (h1:=?_) (h2:=?_)
 rotate_right 1
 focus
  intro c1
  first
  | exact dn c1
  | (
   have d1:=c1;try simp at d1
   refine zD (?_)
   )
 rotate_right 1
 focus
  intro c1
  first
  | exact dn c1
  | (
   have d1:=c1;try simp at d1
   refine wa_ (zB (w_ (aN (h:=zC (e_ (h:=zA (zH (?_))))))))
   )
 all_goals first
 | refine zL ?_
 | (
  refine zA ?_
  refine wa_ (zB (w_ (bs (h:=w_ (m_ (h:=w_ (ap (h:=w_ (a_ (h:=zC (e_ (h:=zA (zH (?_))))))))))))))
  )
 all_goals (refine qZ (hr:=(zR rfl zO)) (h:=?_);(focus (first|(simp_all;done)|(simp_all<;>omega)|(simp_all<;>split<;>simp_all<;>omega))))
theorem zOs (l:List Ct) (hl:l.length<2000000):oc.call 65 [.lst false 0 (cts l)]=some (.lst true 3 (cts l),[]) :=
 qA0 rfl (fun h=>c1_C l hl (by rintro rfl;exact h rfl)) (fun h=>by have:l=[]:=(by simpa [cts] using h);subst this;exact c2_C) (fun h=>by have:l=[]:=(by simpa [cts] using h);subst this;exact c3_C)
def zJq (pl:List Nd) (i:Nat):List V:=nds true 1 (pl.take i)++nds false 0 (pl.drop i)
@[simp] theorem mixN_len {pl:List Nd} {i:Nat}:(zJq pl i).length=pl.length:=by simp[zJq];omega
theorem zYl {pl:List Nd}:zJq pl 0=nds false 0 pl:=by simp[zJq]
theorem zYq {pl:List Nd}:zJq pl pl.length=nds true 1 pl:=by simp[zJq]
theorem zYx {pl:List Nd} {i:Nat} {d:Nd} (h:pl[i]? = some d):(zJq pl i)[i]? = some (d.v false 0):=by
 unfold zJq
 have hlt:=(List.getElem?_eq_some_iff.1 h).1
 rw[List.getElem?_append_right (by simp;omega)]
 simp[nds,h,Nat.min_eq_left (Nat.le_of_lt hlt)]
theorem zT5 {pl:List Nd} {i:Nat} {d:Nd} (h:pl[i]? = some d):(zJq pl i).set i (d.v true 1)=zJq pl (i+1):=by
 unfold zJq
 have hlt:=(List.getElem?_eq_some_iff.1 h).1
 rw[List.set_append_right _ _ (by simp;omega),List.drop_eq_getElem_cons hlt,List.take_add_one,h]
 have hd:pl[i]=d:=by simpa [hlt] using h
 simp[nds,Nat.min_eq_left (Nat.le_of_lt hlt),hd]
theorem l_cp (pl:List Nd) (hp:pl.length<2000000) (hk:okN pl):∀i:Nat,(i≤pl.length)→∀s,zI 1 (some [3,8,9,10]) s=⟨[(3,.ref 1 0 pl.length),(8,.ref 1 0 pl.length),(9,.int .i64 pl.length),(10,.int .i64 i)],[(1,⟨false,false,7,zJq pl i,0⟩)],2⟩ →
 oc.loop 64 3 s=some (.exit 0,⟨[(3,.ref 1 0 pl.length)],[(1,⟨false,false,7,nds true 1 pl,0⟩)],2⟩):=by
 refine zW (σ:=Nat) (fun i=>pl.length - i) _ (fun i=>⟨[(3,.ref 1 0 pl.length),(8,.ref 1 0 pl.length),(9,.int .i64 pl.length),(10,.int .i64 i)],[(1,⟨false,false,7,zJq pl i,0⟩)],2⟩) _ ?_
 intro i hi ih s hs
 refine qB cd64 rfl rfl hs ?_
 refine wa_ (zB (w_ (b_ (h:=zC (e_ (h:=zA (wa_ (?_))))))))
 refine c_ (h1:=?_) (h2:=?_)
 rotate_right 1
 focus
  intro c1
  first
  | exact dn c1
  | (
   have d1:=c1;try simp at d1
   refine zX (?_)
   )
 rotate_right 1
 focus
  intro c1
  first
  | exact dn c1
  | (
   have d1:=c1;try simp at d1
   have hw:=zV (i:=i) (by omega);obtain⟨d,hx,e1,_⟩:=zAm (t:=false) (s:=0) (l:=pl) (i:=i) (by omega);have g2:=zYx hx;have hs2:(zJq pl i).set i (V.agg [.int .i64 d.op,.int .i64 d.a,.int .i64 d.b,.int .i64 d.col,.int .i64 d.test,.int .i64 d.value,.lst true 1 (ints d.cells)])=_:=zT5 hx;have hc:=hk d (List.mem_of_getElem? hx)
   refine zD (?_)
   )
 all_goals first
 | refine zS ?_
 | (
  refine zA ?_
  refine wa_ (zG (wa_ (zB (w_ (m_ (h:=w_ (x_ (h:=w_ (l_ (h:=w_ (al (h:=w_ (a_ (h:=w0 (s_ (h:=zC (e_ (h:=zA (?_)))))))))))))))))))
  refine zB (w_ (m_ (h:=w_ (m_ (h:=w_ (f_ (h:=w_ (l_ (h:=w_ (ca (hc:=zVt d.cells hc) (h:=w_ (x_ (h:=w_ (f_ (h:=w0 (?_))))))))))))))))
  refine sR (h:=?_)
  refine zC (e_ (h:=zJ (zA (zB (w_ (b_ (h:=w_ (m_ (h:=zC (e_ (h:=?_)))))))))))
  )
 all_goals first
 | (refine(ih (i+1) (by omega) ?_ _ ?_).trans ?_;(focus (first|omega|(simp;done)|(simp;omega)));(focus (simp[zI,hw,hs2];done));(focus (rfl)))
 | (apply zM (ex:=(Ext.exit 0)) 1 (some [3]);(focus (simp[zI];rfl));(focus (obtain rfl:i=pl.length:=(by omega);rw[zYq])))
theorem e_cp (pl:List Nd) (hp:pl.length<2000000) (hk:okN pl):oc.call 64 [.lst false 0 (nds false 0 pl)]=some (.lst true 7 (nds true 1 pl),[]):=by
 refine qD rfl cd64 rfl rfl rfl (by simp;rfl) (by simp;rfl) ?_
 refine wa_ (zB (w_ (aN (h:=zC (e_ (h:=zA (wa_ (zB (w_ (m_ (h:=w_ (ca (hc:=zVw pl hp) (h:=w_ (a_ (h:=zC (e_ (h:=zA (?_))))))))))))))))))
 refine wa_ (wa_ (zB (w_ (m_ (h:=w_ (le (h:=w_ (m_ (h:=zC (e_ (h:=zA (zG (?_)))))))))))))
 refine qF (l_cp pl hp hk 0 (by omega) _ (by simp[zI,zYl])) ?_
 refine zT (zA (wa_ (zB (w_ (m_ (h:=w_ (a_ (h:=zC (e_ (h:=zA (zH (?_))))))))))))
 all_goals (refine qZ (hr:=(zR rfl zO)) (h:=?_);(focus (simp)))
theorem l_cpS (pl:List Nd) (hp:pl.length<2000000) (hk:okN pl):∀i:Nat,(i≤pl.length)→∀s,zI 1 (some [3,4]) s=⟨[(3,.ref 1 0 pl.length),(4,.int .i64 i)],[(1,⟨false,false,7,zJq pl i,0⟩)],2⟩ →
 oc.loop 66 3 s=some (.exit 0,⟨[(3,.ref 1 0 pl.length)],[(1,⟨false,false,7,nds true 1 pl,0⟩)],2⟩):=by
 refine zW (σ:=Nat) (fun i=>pl.length - i) _ (fun i=>⟨[(3,.ref 1 0 pl.length),(4,.int .i64 i)],[(1,⟨false,false,7,zJq pl i,0⟩)],2⟩) _ ?_
 intro i hi ih s hs
 refine qB cd66 rfl rfl hs ?_
 refine wa_ (wa_ (zB (w_ (m_ (h:=w_ (m_ (h:=w_ (le (h:=w_ (b_ (h:=zC (e_ (h:=zA (?_))))))))))))))
 refine c_ (h1:=?_) (h2:=?_)
 rotate_right 1
 focus
  intro c1
  first
  | exact dn c1
  | (
   have d1:=c1;try simp at d1
   refine zX (?_)
   )
 rotate_right 1
 focus
  intro c1
  first
  | exact dn c1
  | (
   have d1:=c1;try simp at d1
   have hw:=zV (i:=i) (by omega);obtain⟨d,hx,e1,_⟩:=zAm (t:=false) (s:=0) (l:=pl) (i:=i) (by omega);have g2:=zYx hx;have hs2:(zJq pl i).set i (V.agg [.int .i64 d.op,.int .i64 d.a,.int .i64 d.b,.int .i64 d.col,.int .i64 d.test,.int .i64 d.value,.lst true 1 (ints d.cells)])=_:=zT5 hx;have hc:=hk d (List.mem_of_getElem? hx)
   refine zD (?_)
   )
 all_goals first
 | refine zS ?_
 | (
  refine zA ?_
  refine wa_ (zG (zB (w_ (m_ (h:=w_ (m_ (h:=w_ (bs (h:=w_ (m_ (h:=w_ (m_ (h:=w_ (x_ (h:=w_ (f_ (h:=w_ (l_ (h:=w_ (ap (h:=?_)))))))))))))))))))))
  refine w_ (x_ (h:=w_ (f_ (h:=w0 (?_)))))
  refine sR (h:=?_)
  refine zC (e_ (h:=zJ (zA (zB (w_ (m_ (h:=w_ (b_ (h:=w_ (a_ (h:=zC (e_ (h:=?_)))))))))))))
  )
 all_goals first
 | (refine(ih (i+1) (by omega) ?_ _ ?_).trans ?_;(focus (first|omega|(simp;done)|(simp;omega)));(focus (simp[zI,hw,hs2];done));(focus (rfl)))
 | (apply zM (ex:=(Ext.exit 0)) 1 (some [3]);(focus (simp[zI];rfl));(focus (obtain rfl:i=pl.length:=(by omega);rw[zYq])))
theorem e_cpS (pl:List Nd) (hp:pl.length<2000000) (hk:okN pl):oc.call 66 [.lst false 0 (nds false 0 pl)]=some (.lst true 7 (nds true 1 pl),[]):=by
 refine qD rfl cd66 rfl rfl rfl (by simp;rfl) (by simp;rfl) ?_
 refine wa_ (zB (w_ (aN (h:=zC (e_ (h:=zA (wa_ (zB (w_ (bs (h:=w_ (m_ (h:=w_ (ap (h:=w_ (a_ (h:=zC (e_ (h:=?_)))))))))))))))))))
 refine zA (wa_ (wa_ (zB (w_ (a_ (h:=zC (e_ (h:=zA (zG (?_))))))))))
 refine qF (l_cpS pl hp hk 0 (by omega) _ (by simp[zI,zYl])) ?_
 refine zT (zA (wa_ (zB (w_ (m_ (h:=w_ (a_ (h:=zC (e_ (h:=zA (zH (?_))))))))))))
 all_goals (refine qZ (hr:=(zR rfl zO)) (h:=?_);(focus (simp)))
def wk0 (pl:List Nd) (L:List Ct):Wk:=⟨[],L,List.replicate pl.length ⟨[],[],[],0⟩,0,0,[],false⟩
theorem zXh {α:Type} {n:Nat} {x:α}:List.replicate n x++[x]=List.replicate (n+1) x:=by
 rw[List.replicate_succ']
theorem zUn {pl:List Nd} {L:List Ct} {i:Nat}:wks true (List.replicate i (wk0 pl L))++[V.agg [.lst true 6 [],.lst true 3 (cts L),.lst true 4 (List.replicate pl.length (V.agg [.lst true 2 [],.lst true 2 [],.lst true 3 [],.int .i64 0])),.int .i64 0,.int .i64 0,.lst true 3 [],.bool false]]=wks true (List.replicate (i+1) (wk0 pl L)):=by
 rw[zO0,← zXh]
 simp[wks,wk0,Wk.v]
abbrev clZ:V:=.agg [.int .i64 0,.agg [.lst true 7 [],.lst true 7 [],.lst true 1 []]]
theorem l_nc (pl:List Nd) (L:List Ct) (w q:Nat) (hp:pl.length<2000000) (hL:L.length<2000000) (hw0:w≤3):∀i:Nat,(1≤i∧i≤w)→∀s,zI 2 (some [0,4,5,6,23,24]) s=⟨[(0,.lst false 0 (nds false 0 pl)),(4,.ptr 2 0 []),(5,.ptr 3 0 []),(6,.ptr 4 0 []),(23,.int .i64 w),(24,.int .i64 i)],[(2,⟨true,false,4,[clZ],0⟩),(3,⟨true,false,2,[.agg [.int .i64 0,.ref 5 0 L.length]],0⟩),(4,⟨true,false,3,[.agg [.ref 6 0 pl.length,.ref 7 0 i,.ref 8 0 q]],0⟩),(5,⟨false,false,3,cts L,0⟩),(6,⟨false,false,7,nds true 1 pl,0⟩),(7,⟨false,false,7,wks true (List.replicate i (wk0 pl L)),0⟩),(8,⟨false,false,1,kO true (List.replicate q []),0⟩)],9⟩ →
 oc.loop 17 6 s=some (.exit 0,⟨[(4,.ptr 2 0 []),(6,.ptr 3 0 [])],[(2,⟨true,false,4,[clZ],0⟩),(3,⟨true,false,3,[.agg [.ref 4 0 pl.length,.ref 5 0 w,.ref 6 0 q]],0⟩),(4,⟨false,false,7,nds true 1 pl,0⟩),(5,⟨false,false,7,wks true (List.replicate w (wk0 pl L)),0⟩),(6,⟨false,false,1,kO true (List.replicate q []),0⟩)],7⟩):=by
 refine zW (σ:=Nat) (fun i=>w - i) _ (fun i=>⟨[(0,.lst false 0 (nds false 0 pl)),(4,.ptr 2 0 []),(5,.ptr 3 0 []),(6,.ptr 4 0 []),(23,.int .i64 w),(24,.int .i64 i)],[(2,⟨true,false,4,[clZ],0⟩),(3,⟨true,false,2,[.agg [.int .i64 0,.ref 5 0 L.length]],0⟩),(4,⟨true,false,3,[.agg [.ref 6 0 pl.length,.ref 7 0 i,.ref 8 0 q]],0⟩),(5,⟨false,false,3,cts L,0⟩),(6,⟨false,false,7,nds true 1 pl,0⟩),(7,⟨false,false,7,wks true (List.replicate i (wk0 pl L)),0⟩),(8,⟨false,false,1,kO true (List.replicate q []),0⟩)],9⟩) _ ?_
 intro i hi ih s hs
 refine qB cd17 rfl rfl hs ?_
 obtain⟨hi1,hi2⟩:=hi
 refine wa_ (zB (w_ (b_ (h:=zC (e_ (h:=zA (wa_ (?_))))))))
 refine c_ (h1:=?_) (h2:=?_)
 rotate_right 1
 focus
  intro c1
  first
  | exact dn c1
  | (
   have d1:=c1;try simp at d1
   refine zX (?_)
   )
 rotate_right 1
 focus
  intro c1
  first
  | exact dn c1
  | (
   have d1:=c1;try simp at d1
   have hw:=zV (i:=i) (by omega)
   refine zD (?_)
   )
 all_goals first
 | refine zS ?_
 | (
  refine zA ?_
  refine wa_ (zG (qE (y_ (f_ (h:=ax_ (h:=y_ (l_ (h:=ax_ (h:=y_ (f_ (h:=ax_ (h:=y_ (l_ (h:=ax_ (h:=y_ (ca (hc:=zOs L hL) (h:=ax_ (h:=y_ (m_ (h:=ax_ (h:=y_ (le (h:=ax_ (h:=y_ (mk (h:=ax_ (h:=y_ (bd (h:=ax_ (h:=?_))))))))))))))))))))))))))))))
  refine y_ (bs (h:=ax_ (h:=y_ (ap (h:=ax_ (h:=y_ (f_ (h:=ax_ (h:=y0 (s_ (h:=ax_ (h:=zC (ed (h:=zJ (zA (zB (w_ (b_ (h:=w_ (m_ (h:=zC (e_ (h:=?_)))))))))))))))))))))))
  )
 all_goals first
 | (refine(ih (i+1) (⟨by omega,by omega⟩) ?_ _ ?_).trans ?_;(focus (first|omega|(simp;done)|(simp;omega)));(focus (simp[zI,hw,zUn];done));(focus (rfl)))
 | (apply zM (ex:=(Ext.exit 0)) 2 (some [4,6]);(focus (simp[zI];rfl));(focus (obtain rfl:i=w:=(by omega);rfl)))
theorem zZ4 {pl:List Nd} {L:List Ct}:V.agg [.lst true 6 [],.lst true 3 (cts L),.lst true 4 (List.replicate pl.length (V.agg [.lst true 2 [],.lst true 2 [],.lst true 3 [],.int .i64 0])),.int .i64 0,.int .i64 0,.lst true 3 [],.bool false]=(wk0 pl L).v true:=by
 rw[zO0];rfl
theorem nc0 (pl:List Nd) (L:List Ct) (w q:Nat) (hp:pl.length<2000000) (hL:L.length<2000000) (hw0:w≤3) (hw1:1≤w):∀s,zI 2 (some [0,4,5,6,23,24]) s=⟨[(0,.lst false 0 (nds false 0 pl)),(4,.ptr 2 0 []),(5,.ptr 3 0 []),(6,.ptr 4 0 []),(23,.int .i64 w),(24,.int .i64 0)],[(2,⟨true,false,4,[clZ],0⟩),(3,⟨true,false,2,[.agg [.int .i64 0,.ref 5 0 L.length]],0⟩),(4,⟨true,false,3,[.agg [.ref 6 0 pl.length,.lst true 7 [],.ref 7 0 q]],0⟩),(5,⟨false,false,3,cts L,0⟩),(6,⟨false,false,7,nds true 1 pl,0⟩),(7,⟨false,false,1,kO true (List.replicate q []),0⟩)],8⟩ →
 oc.loop 17 6 s=some (.exit 0,⟨[(4,.ptr 2 0 []),(6,.ptr 3 0 [])],[(2,⟨true,false,4,[clZ],0⟩),(3,⟨true,false,3,[.agg [.ref 4 0 pl.length,.ref 5 0 w,.ref 6 0 q]],0⟩),(4,⟨false,false,7,nds true 1 pl,0⟩),(5,⟨false,false,7,wks true (List.replicate w (wk0 pl L)),0⟩),(6,⟨false,false,1,kO true (List.replicate q []),0⟩)],7⟩):=by
 intro s hs
 have hw:IntKind.i64.wrap (0+1)=1:=by decide
 have hwb:IntKind.i64.wrap 1=1:=by decide
 refine qB cd17 rfl rfl hs ?_
 refine wa_ (zB (w_ (b_ (h:=zC (e_ (h:=zA (wa_ (?_))))))))
 refine c_ (h1:=?_) (h2:=?_)
 rotate_right 1
 focus
  intro c1
  first
  | exact dn c1
  | (
   have d1:=c1;try simp at d1
   exfalso;rw[decide_eq_false_iff_not] at c1;omega
   )
 rotate_right 1
 focus
  intro c1
  first
  | exact dn c1
  | (
   have d1:=c1;try simp at d1
   refine zD (?_)
   )
 all_goals first
 | refine zS ?_
 | (
  refine zA ?_
  refine wa_ (zG (qE (y_ (f_ (h:=ax_ (h:=y_ (l_ (h:=ax_ (h:=y_ (f_ (h:=ax_ (h:=y_ (l_ (h:=ax_ (h:=y_ (ca (hc:=zOs L hL) (h:=ax_ (h:=y_ (m_ (h:=ax_ (h:=y_ (le (h:=ax_ (h:=y_ (mk (h:=ax_ (h:=y_ (bd (h:=ax_ (h:=?_))))))))))))))))))))))))))))))
  refine y_ (bs (h:=ax_ (h:=y_ (ap (h:=ax_ (h:=y_ (f_ (h:=ax_ (h:=y0 (s_ (h:=ax_ (h:=zC (ed (h:=zJ (zA (zB (w_ (b_ (h:=w_ (m_ (h:=zC (e_ (h:=?_)))))))))))))))))))))))
  )
 all_goals (refine(l_nc pl L w q hp hL hw0 1 ⟨by omega,by omega⟩ _ ?_).trans rfl;(simp[zI,hw,hwb,zZ4];done))
def xH (pl:List Nd) (L:List Ct) (w:Nat):Cl:=⟨pl,List.replicate w (wk0 pl L),List.replicate (w * w) []⟩
def zR4 (pl:List Nd) (w:Int):Int×Cl:=if(xR pl w).1=0 then(0,xH pl (xR pl w).2 w.toNat) else((xR pl w).1,⟨[],[],[]⟩)
theorem zFb {pl:List Nd} {w:Int} (h:(xR pl w).1=0):(jS pl).2=0∧1≤w∧w≤3∧(xR pl w).2=(qK 1 0 pl).map (qG w):=by
 unfold xR at h ⊢
 split at h
 ·rename_i h0;exact absurd h h0
 ·rename_i h0
  split at h
  ·rename_i h1
   rw[if_neg h0,if_pos h1]
   simp[inI] at h1
   exact⟨by simpa using h0,by omega,by omega,rfl⟩
  ·cases h
theorem qI9 (pl:List Nd) (w:Int) (hp:pl.length<2000000) (hk:okN pl):oc.call 17 [.lst false 0 (nds false 0 pl),.int .i64 w]=some (.agg [.int .i64 (zR4 pl w).1,(zR4 pl w).2.v true],[]):=by
 refine qD rfl cd17 rfl rfl rfl (by simp;rfl) (by simp;rfl) ?_
 refine wa_ (zB (w_ (al (h:=zC (e_ (h:=zA (wa_ (zB (w_ (m_ (h:=w_ (m_ (h:=w_ (ca (hc:=zKb pl w hp hk) (h:=w_ (al (h:=w0 (s_ (h:=?_)))))))))))))))))))
 refine zC (e_ (h:=zA (wa_ (wa_ (zB (w_ (f_ (h:=w_ (l_ (h:=w_ (bE (h:=zC (e_ (h:=zA (?_)))))))))))))))
 refine c_ (h1:=?_) (h2:=?_)
 rotate_right 1
 focus
  intro c1
  first
  | exact dn c1
  | (
   have d1:=c1;try simp at d1
   obtain⟨q1,q2,q3,q4⟩:=zFb d1;obtain⟨W,rfl⟩:∃W:Nat,w=W:=⟨w.toNat,by omega⟩;have hL:(xR pl W).2.length<2000000:=(by rw[q4];have:=jZ (op:=1) (l:=pl) (i:=0);simp;omega);have hsq:W * W≤9:=Nat.le_trans (Nat.mul_le_mul (show W≤3 by omega) (show W≤3 by omega)) (by omega);have hww:IntKind.i64.wrap ((W:Int) * W)=((W * W:Nat):Int):=(by rw[qH (by push_cast at *;omega) (by push_cast at *;omega)];push_cast;rfl);have hto:((W:Int) * W).toNat=W * W:=(by rw[←Int.natCast_mul];exact Int.toNat_natCast _);clear q4
   refine zD (?_)
   )
 rotate_right 1
 focus
  intro c1
  first
  | exact dn c1
  | (
   have d1:=c1;try simp at d1
   refine wa_ (zB (w_ (f_ (h:=w_ (l_ (h:=w_ (bd (h:=w0 (s_ (h:=zC (e_ (h:=zA (zH (?_))))))))))))))
   )
 all_goals first
 | refine zL ?_
 | (
  refine zA ?_
  refine wa_ (qE (y_ (m_ (h:=ax_ (h:=y_ (ca (hc:=e_cp pl hp hk) (h:=ax_ (h:=y_ (m_ (h:=ax_ (h:=y_ (m_ (h:=ax_ (h:=y_ (b_ (h:=ax_ (h:=y_ (mk (h:=ax_ (h:=y_ (bd (h:=ax_ (h:=y_ (al (h:=ax_ (h:=y0 (s_ (h:=ax_ (h:=zC (ed (h:=?_)))))))))))))))))))))))))))))))
  refine zA (wa_ (wa_ (zB (w_ (m_ (h:=w_ (m_ (h:=zC (e_ (h:=zA (zG (?_))))))))))))
  refine qF (nc0 pl (xR pl W).2 W (W * W) hp hL (by omega) (by omega) _ (by simp[zI,hww,hto,zKd,d1])) ?_
  refine zT (zA (wa_ (zB (w_ (l_ (h:=w_ (bd (h:=w0 (s_ (h:=zC (e_ (h:=zA (zH (?_))))))))))))))
  )
 all_goals (refine qZ (hr:=(vA (tys_ok.zero _ _ rfl) rfl (by simp;rfl) (by rfl) zO)) (h:=?_);(focus (clear hk;first|(simp[zR4,xH,Cl.v,d1];done)|(simp[zR4,d1,Cl.v];done))))
end Go.Proofs.YtbcgenkegnmkhaaGreat.Ev
namespace Go.Proofs.YtbcgenkegnmkhaaGreat.Ev
open Go
set_option maxRecDepth 100000
set_option linter.unusedSimpArgs false
set_option linter.unusedVariables false
set_option maxHeartbeats 2000000
theorem zIo {pl:List Nd} (h:(jS pl).2=0):1≤pl.length∧pl.length≤8:=by
 unfold jS at h
 split at h
 ·cases h
 ·rename_i hl
  simp[inI] at hl
  omega
theorem zAz {op:Int}:∀{l:List Nd} {i:Nat} {x:Int},x∈qK op i l→(i:Int)≤x∧x<(i:Int)+l.length
 | [],_,_,h=>by simp[qK] at h
 | d::r,i,x,h=>by
  unfold qK at h
  split at h
  ·rcases List.mem_cons.1 h with rfl|h
   ·simp;omega
   ·have:=zAz h;simp;omega
  ·have:=zAz h;simp;omega
theorem zCf {op:Int}:∀{l:List Nd} {i:Nat},(qK op i l).Pairwise (· < ·)
 | [],_=>by simp[qK]
 | d::r,i=>by
  unfold qK
  split
  ·exact List.pairwise_cons.2 ⟨fun y hy=>by have:=zAz hy;omega,zCf⟩
  ·exact zCf
theorem zJu {w:Int} {l:List Int} (h:l.Pairwise (· < ·)):(l.map (qG w)).Pairwise (fun x y=>ltC x y=true):=by
 rw[List.pairwise_map]
 exact h.imp fun {a b} hab=>by rw[qX];simp only[qG];omega
theorem zO6 {x c:Ct}:∀{pre suf:List Ct},(∀y∈pre,ltC y c=true)→ltC x c=false→ltC c x=false→xS (pre++x::suf) c=pre++zNh x c::suf
 | [],suf,_,h1,h2=>by simp[yV,h1,h2]
 | y::r,suf,h,h1,h2=>by
  rw[List.cons_append,yV,if_pos (h y (List.mem_cons_self ..)),zO6 (fun z hz=>h z (List.mem_cons_of_mem _ hz)) h1 h2,List.cons_append]
theorem zJt {a b:Int}:∀{suf:List Int} {pre:List Ct},suf.Pairwise (· < ·)→(∀y∈pre,∀n∈suf,y.pl<2 * n+1)→(suf.map (qG b)).foldl xS (pre++suf.map (qG a))=pre++suf.map (qG (IntKind.i64.wrap (a+b)))
 | [],pre,_,_=>by simp
 | n::r,pre,h,hp=>by
  obtain⟨h1,h2⟩:=List.pairwise_cons.1 h
  have he:zNh (qG a n) (qG b n)=qG (IntKind.i64.wrap (a+b)) n:=rfl
  have hno:∀u v:Int,ltC (qG u n) (qG v n)=false:=fun u v=>by rw[zCs];simp only[qG];omega
  simp only[List.map_cons,List.foldl_cons]
  rw[zO6 (fun y hy=>by rw[qX];simp only[qG];have:=hp y hy n (List.mem_cons_self ..);omega) (hno a b) (hno b a),he]
  have:=zJt (a:=a) (b:=b) (suf:=r) (pre:=pre++[qG (IntKind.i64.wrap (a+b)) n]) h2 (fun y hy m hm=>by
   rcases List.mem_append.1 hy with hy|hy
   ·exact hp y hy m (List.mem_cons_of_mem _ hm)
   ·simp at hy;subst hy;have:=h1 m hm;simp only[qG];omega)
  simpa using this
theorem zTo {l:List Int} (h:l.Pairwise (· < ·)) (W:Nat) (h1:1≤W) (h3:W≤3):(List.replicate W (l.map (qG 1))).flatten.foldl xS []=l.map (qG W):=by
 have s1:(l.map (qG 1)).foldl xS []=l.map (qG 1):=by
  have:=zDu (l.map (qG 1)) [] (by simpa using zJu h)
  simpa using this
 have rd:∀a:Int,(l.map (qG 1)).foldl xS (l.map (qG a))=l.map (qG (IntKind.i64.wrap (a+1))):=fun a=>by
  have:=zJt (a:=a) (b:=1) (suf:=l) (pre:=[]) h (fun y hy=>by cases hy)
  simpa using this
 rcases(by omega:W=1∨W=2∨W=3) with rfl|rfl|rfl
 ·simpa using s1
 ·simp only[List.replicate_succ,List.replicate_zero,List.flatten_cons,List.flatten_nil,List.append_nil,List.foldl_append,s1,rd];rfl
 ·simp only[List.replicate_succ,List.replicate_zero,List.flatten_cons,List.flatten_nil,List.append_nil,List.foldl_append,s1,rd];rfl
structure TrOK (F:Hd→List Int) (c:Cl):Prop where
 p8:c.plan.length≤8
 w3:c.workers.length≤3
 l0:0<c.links.length
 nl:∀w∈c.workers,w.nodes.length=c.plan.length
 hF:∀w∈c.workers,∀h∈w.nodes,oc.call 137 [h.v false]=some (.lst true 1 (ints (F h)),[])∧(F h).length≤100
 len:(zEf F c).length<500000
 one:∀x∈zEf F c,IntKind.i64.wrap (0+x.n)=x.n
def trS (F:Hd→List Int) (c:Cl):List Ct×Int:=qA3 ((zEf F c).foldl xS [])
def trN (F:Hd→List Int) (c:Cl):Int×List Ct:=if clN c=0 then((trS F c).2,(trS F c).1) else(clN c,[])
theorem qDj (c:Cl) (F:Hd→List Int) (hp:c.plan.length<2000000) (hk:okN c.plan) (hx:zA8 c.workers<2000000) (hy:vC c.links<2000000) (hT:clN c=0→TrOK F c):oc.call 19 [c.v false]=some (.agg [.int .i64 (trN F c).1,.lst true 3 (cts (trN F c).2)],[]):=by
 refine qD rfl cd19 rfl rfl rfl (by simp;rfl) (by simp;rfl) ?_
 have hl2:=zB2 (l:=c.links)
 have hl3:=zNa (l:=c.links)
 refine wa_ (zB (w_ (bx (h:=w_ (al (h:=zC (e_ (h:=zA (wa_ (wa_ (zB (w_ (l_ (h:=w_ (ca (hc:=zX6 c hp hk hx hy) (h:=w_ (a_ (h:=?_))))))))))))))))))
 refine zC (e_ (h:=zA (wa_ (zB (w_ (m_ (h:=w_ (bE (h:=zC (e_ (h:=zA (?_))))))))))))
 refine c_ (h1:=?_) (h2:=?_)
 rotate_right 1
 focus
  intro c1
  first
  | exact dn c1
  | (
   have d1:=c1;try simp at d1
   have hc0:clN c=0:=(by simpa using c1);obtain⟨p8,w3,l0,nl,hF,hlen,hone⟩:=hT hc0;have htc:oc.call 68 [.vptr (c.v false)]=some (.tup [.lst true 3 (cts (trS F c).1),.int .i64 (trS F c).2],[]):=e_tc c F p8 w3 (by omega) (by omega) l0 hx nl hF hlen hone;obtain⟨X,hX⟩:∃X,trS F c=X:=⟨_,rfl⟩;rw[hX] at htc
   refine zD (?_)
   )
 rotate_right 1
 focus
  intro c1
  first
  | exact dn c1
  | (
   have d1:=c1;try simp at d1
   refine wa_ (zB (w_ (m_ (h:=w_ (bd (h:=w0 (s_ (h:=zC (e_ (h:=zA (zH (?_))))))))))))
   )
 all_goals first
 | refine zL ?_
 | (
  refine zA ?_
  refine wa_ (zB (w_ (ca (hc:=htc) (h:=w_ (m_ (h:=w_ (ex (h:=w_ (ex (h:=w_ (a_ (h:=w_ (a_ (h:=zC (e_ (h:=zA (wa_ (zB (?_)))))))))))))))))))
  refine w_ (m_ (h:=w_ (m_ (h:=w_ (bd (h:=w0 (s_ (h:=zC (e_ (h:=zA (zH (?_))))))))))))
  )
 all_goals (refine qZ (hr:=(vA (tys_ok.zero _ _ rfl) rfl (by simp;rfl) (by rfl) zO)) (h:=?_);(focus (clear hk hT;first|(rw[trN,if_pos hc0,hX];simp;done)|(rw[trN,if_neg (by simpa using c1)];simp;done))))
def zMs (o p:Option Int):Bool:=o.isSome&&(!p.isSome||decide (o.getD 0<p.getD 0))
theorem qJ2 (c:Cl) (T:List Ct) (to:Nat) (o:Option Int) (hp:c.plan.length≤8) (hk:okN c.plan) (W:Wf c.plan) (hw3:c.workers.length≤3) (hr:∀w∈c.workers,w.counts.length<2000000∧∀x∈w.counts,yY c.plan x=true∧x.n≠0):∀i:Nat,(i≤c.workers.length)→∀s,zI 1 (some [1,3,5,6,7,24,25,37,38,39]) s=⟨[(1,.ptr 1 0 []),(3,.ref 2 0 T.length),(5,.int .i64 to),(6,.int .i64 (o.getD 0)),(7,.bool o.isSome),(24,.int .i64 ((2 * c.plan.length:Nat):Int)),(25,.int .i64 to),(37,.lst false 0 (wks false c.workers)),(38,.int .i64 c.workers.length),(39,.int .i64 i)],[(1,⟨true,false,3,[c.v false],0⟩),(2,⟨false,false,3,cts T,0⟩)],3⟩ →
 oc.loop 22 11 s=some (if(c.workers.drop i).any (fun w=>zMs o (frN c.plan w.counts to))=true then(.ret,⟨[(1,.ptr 1 0 []),(2,.bool false),(3,.ref 2 0 T.length),(24,.int .i64 ((2 * c.plan.length:Nat):Int)),(25,.int .i64 to)],[(1,⟨true,false,3,[c.v false],0⟩),(2,⟨false,false,3,cts T,0⟩)],3⟩) else(.exit 2,⟨[(1,.ptr 1 0 []),(3,.ref 2 0 T.length),(24,.int .i64 ((2 * c.plan.length:Nat):Int)),(25,.int .i64 to)],[(1,⟨true,false,3,[c.v false],0⟩),(2,⟨false,false,3,cts T,0⟩)],3⟩)):=by
 refine zW (σ:=Nat) (fun i=>c.workers.length - i) _ (fun i=>⟨[(1,.ptr 1 0 []),(3,.ref 2 0 T.length),(5,.int .i64 to),(6,.int .i64 (o.getD 0)),(7,.bool o.isSome),(24,.int .i64 ((2 * c.plan.length:Nat):Int)),(25,.int .i64 to),(37,.lst false 0 (wks false c.workers)),(38,.int .i64 c.workers.length),(39,.int .i64 i)],[(1,⟨true,false,3,[c.v false],0⟩),(2,⟨false,false,3,cts T,0⟩)],3⟩) _ ?_
 intro i hi ih s hs
 refine qB cd22 rfl rfl hs ?_
 refine wa_ (zB (w_ (b_ (h:=zC (e_ (h:=zA (wa_ (?_))))))))
 refine c_ (h1:=?_) (h2:=?_)
 rotate_right 1
 focus
  intro c1
  first
  | exact dn c1
  | (
   have d1:=c1;try simp at d1
   refine zX (?_)
   )
 rotate_right 1
 focus
  intro c1
  first
  | exact dn c1
  | (
   have d1:=c1;try simp at d1
   have hw:=zV (i:=i) (by omega);obtain⟨w,hb,e1,g1⟩:=zIp (t:=false) (l:=c.workers) (i:=i) (by omega);have hrw:=hr w (List.mem_of_getElem? hb);obtain⟨q,hq⟩:∃q,frN c.plan w.counts to=q:=⟨_,rfl⟩;have hfr:=qFi c.plan w.counts to (by omega) hk W hrw.1 hrw.2;rw[hq] at hfr;rcases o with _|ov<;>rcases q with _|qv<;>simp only[Option.getD,Option.isSome] at hfr
   all_goals
    refine zD (?_)
   )
 all_goals first
 | refine zS ?_
 | (
  refine zA ?_
  refine wa_ (zG (wa_ (zB (w_ (x_ (h:=w_ (l_ (h:=w_ (al (h:=w0 (s_ (h:=zC (e_ (h:=zA (wa_ (zB (?_)))))))))))))))))
  refine w_ (f_ (h:=w_ (l_ (h:=w_ (f_ (h:=w_ (l_ (h:=w_ (m_ (h:=w_ (ca (hc:=hfr) (h:=w_ (m_ (h:=w_ (ex (h:=w_ (ex (h:=w_ (a_ (h:=w_ (a_ (h:=zC (e_ (h:=?_))))))))))))))))))))))))
  refine zA (wa_ (zB (w_ (m_ (h:=w_ (m_ (h:=?_)))))))
  refine gw_ (h1:=?_) (h2:=?_)
  rotate_right 1
  focus
   intro c2
   first
   | exact dn c2
   | (
    have d2:=c2;try simp at d2
    refine go_ (h:=go_ (h:=go_ (h:=?_)))
    )
  rotate_right 1
  focus
   intro c2
   first
   | exact dn c2
   | (
    have d2:=c2;try simp at d2
    refine g_ (h:=w_ (m_ (h:=g_ (h:=w_ (u_ (h:=g_ (h:=w_ (m_ (h:=?_)))))))))
    )
  all_goals
   first
   | (
    skip
    refine goN (h:=goN (h:=goN (h:=?_)))
    )
   | (
    refine gw_ (h1:=?_) (h2:=?_)
    rotate_right 1
    focus
     intro c3
     first
     | exact dn c3
     | (
      have d3:=c3;try simp at d3
      refine go_ (h:=go_ (h:=go_ (h:=?_)))
      )
    rotate_right 1
    focus
     intro c3
     first
     | exact dn c3
     | (
      have d3:=c3;try simp at d3
      refine g_ (h:=w_ (m_ (h:=g_ (h:=w_ (m_ (h:=g_ (h:=w_ (b_ (h:=?_)))))))))
      )
    )
   all_goals
    first
    | (
     skip
     refine g_ (h:=w_ (pk (h:=?_)))
     )
    | (
     skip
     refine go_ (h:=?_)
     )
    all_goals
     refine w_ (pk (h:=zC (e_ (h:=?_))))
  all_goals first
  | (
   refine zA ?_
   refine c_ (h1:=?_) (h2:=?_)
   rotate_right 1
   focus
    intro c4
    first
    | exact dn c4
    | (
     have d4:=c4;try simp at d4
     refine zD (?_)
     )
   rotate_right 1
   focus
    intro c4
    first
    | exact dn c4
    | (
     have d4:=c4;try simp at d4
     refine wa_ (zB (w_ (a_ (h:=zC (e_ (h:=zA (zH (?_))))))))
     )
   )
  all_goals first|refine zJ ?_|refine zY ?_
  all_goals first
  | refine zL ?_
  | (
   refine zA ?_
   refine zB (w_ (b_ (h:=w_ (m_ (h:=zC (e_ (h:=?_)))))))
   )
  )
 all_goals first
 | (refine(ih (i+1) (by omega) ?_ _ ?_).trans ?_;(focus (first|omega|(simp;done)|(simp;omega)));(focus (simp[zI,hw];done));(focus (simp only[e1,List.any_cons,hq];first|(simp[zMs];done)|(rw[show zMs (some ov) (some qv)=false from by(simp[zMs];omega)];simp;done)|(rw[show zMs (some ov) (some qv)=true from by(simp[zMs];omega)];simp;done))))
 | (apply zM (ex:=Ext.ret) 1 (some [1,2,3,24,25]);(focus (simp[zI];rfl));(focus (simp only[e1,List.any_cons,hq];first|(simp[zMs];done)|(rw[show zMs (some ov) (some qv)=false from by(simp[zMs];omega)];simp;done)|(rw[show zMs (some ov) (some qv)=true from by(simp[zMs];omega)];simp;done))))
 | (apply zM (ex:=(Ext.exit 2)) 1 (some [1,2,3,24,25]);(focus (simp[zI];rfl));(focus (rw[List.drop_eq_nil_of_le (by omega)];simp)))
def zLw (c:Cl) (T:List Ct):Nat→Nat→Bool
 | 0,_=>false
 | n+1,i=>c.workers.any (fun w=>zMs (frN c.plan T i) (frN c.plan w.counts i))||zLw c T n (i+1)
theorem l_sf7 (c:Cl) (T:List Ct) (hp:c.plan.length≤8) (hk:okN c.plan) (W:Wf c.plan) (hw3:c.workers.length≤3) (hr:∀w∈c.workers,w.counts.length<2000000∧∀x∈w.counts,yY c.plan x=true∧x.n≠0) (hTl:T.length<2000000) (hTr:∀x∈T,yY c.plan x=true∧x.n≠0):∀i:Nat,(i≤2 * c.plan.length)→∀s,zI 1 (some [1,3,24,25]) s=⟨[(1,.ptr 1 0 []),(3,.ref 2 0 T.length),(24,.int .i64 ((2 * c.plan.length:Nat):Int)),(25,.int .i64 i)],[(1,⟨true,false,3,[c.v false],0⟩),(2,⟨false,false,3,cts T,0⟩)],3⟩ →
 oc.loop 22 7 s=some (if zLw c T (2 * c.plan.length - i) i=true then(.ret,⟨[(2,.bool false)],[],1⟩) else(.exit 0,⟨[],[],1⟩)):=by
 refine zW (σ:=Nat) (fun i=>2 * c.plan.length - i) _ (fun i=>⟨[(1,.ptr 1 0 []),(3,.ref 2 0 T.length),(24,.int .i64 ((2 * c.plan.length:Nat):Int)),(25,.int .i64 i)],[(1,⟨true,false,3,[c.v false],0⟩),(2,⟨false,false,3,cts T,0⟩)],3⟩) _ ?_
 intro i hi ih s hs
 refine qB cd22 rfl rfl hs ?_
 refine wa_ (zB (w_ (b_ (h:=zC (e_ (h:=zA (wa_ (?_))))))))
 refine c_ (h1:=?_) (h2:=?_)
 rotate_right 1
 focus
  intro c1
  first
  | exact dn c1
  | (
   have d1:=c1;try simp at d1
   refine zX (?_)
   )
 rotate_right 1
 focus
  intro c1
  first
  | exact dn c1
  | (
   have d1:=c1;try simp at d1
   have hw:=zV (i:=i) (by omega);obtain⟨n,hn⟩:∃n,2 * c.plan.length - i=n+1:=⟨2 * c.plan.length - i - 1,by omega⟩;have hn2:2 * c.plan.length - (i+1)=n:=(by omega);obtain⟨o,ho⟩:∃o,frN c.plan T i=o:=⟨_,rfl⟩;have hfr:=qFi c.plan T i (by omega) hk W hTl hTr;rw[ho] at hfr;have h11:=qJ2 c T i o hp hk W hw3 hr 0 (by omega);simp only[List.drop_zero] at h11
   refine zD (?_)
   )
 all_goals first
 | refine zS ?_
 | (
  refine zA ?_
  refine wa_ (zG (wa_ (zB (w_ (m_ (h:=w_ (a_ (h:=zC (e_ (h:=zA (wa_ (zB (w_ (f_ (h:=w_ (l_ (h:=?_)))))))))))))))))
  refine w_ (m_ (h:=w_ (m_ (h:=w_ (ca (hc:=hfr) (h:=w_ (m_ (h:=w_ (ex (h:=w_ (ex (h:=w_ (a_ (h:=w_ (a_ (h:=zC (e_ (h:=zA (wa_ (zB (?_)))))))))))))))))))))
  refine w_ (f_ (h:=w_ (l_ (h:=w_ (le (h:=w_ (m_ (h:=zC (e_ (h:=zA (zG (?_))))))))))))
  refine qR (h11 _ (by simp[zI])) ?_ ?_
  rotate_right 1
  focus
   intro c2
   first
   | exact dn c2
   | (
    have d2:=c2;try simp at d2
    skip
    )
  rotate_right 1
  focus
   intro c2
   first
   | exact dn c2
   | (
    have d2:=c2;try simp at d2
    skip
    )
  all_goals first|refine zY ?_|refine zT ?_
  all_goals first|refine zJ ?_|refine zY ?_
  all_goals first
  | refine zL ?_
  | (
   refine zA ?_
   refine zB (w_ (b_ (h:=w_ (m_ (h:=zC (e_ (h:=?_)))))))
   )
  )
 all_goals first
 | (refine(ih (i+1) (by omega) ?_ _ ?_).trans ?_;(focus (first|omega|(simp;done)|(simp;omega)));(focus (simp[zI,hw];done));(focus (rw[hn,hn2,zLw,ho];simp[*])))
 | (apply zM (ex:=Ext.ret) 1 (some [2]);(focus (simp[zI];rfl));(focus (rw[hn,zLw,ho];simp[*])))
 | (apply zM (ex:=(Ext.exit 0)) 1 (some [2]);(focus (simp[zI];rfl));(focus (rw[show 2 * c.plan.length - i=0 by omega];simp[zLw])))
end Go.Proofs.YtbcgenkegnmkhaaGreat.Ev
