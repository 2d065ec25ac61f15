/- Part 4 of the proof that the law named in the last part returns true at every argument: an evaluator of the program, shown sound, and its runs. No further conditions. -/
import Derived.Test.YtbcgenkegnmkhaaGreatMLh803
namespace Go.Proofs.YtbcgenkegnmkhaaGreat.Ev
open Go
set_option maxRecDepth 100000
set_option linter.unusedSimpArgs false
set_option linter.unusedVariables false
set_option maxHeartbeats 2000000
theorem l_eqG (a b:List Int) (z z':Nat) (ha:a.length<4000000000) (hab:a.length=b.length):∀i:Nat,i<=a.length->∀s,zH 2 (some [0,1,12,13]) s=⟨[(0,.lst false z (ints a)),(1,.lst false z' (ints b)),(12,.int .i64 a.length),(13,.int .i64 i)],[],2⟩ ->
 oc.loop 133 4 s=some (if a.drop i=b.drop i then(.exit 0,⟨[],[],2⟩) else(.ret,⟨[(4,.bool false)],[],2⟩)):=by
 refine zV (fun i=>a.length - i) _ (fun i=>⟨[(0,.lst false z (ints a)),(1,.lst false z' (ints b)),(12,.int .i64 a.length),(13,.int .i64 i)],[],2⟩) _ ?_;intro i hi ih s hs;refine qD qMd rfl rfl hs ?_;refine wa_ (zB (w_ (b_ (h:=nE (h:=zA (wa_ ?_))))));refine c_ (h1:=?_) (h2:=?_)
 rotate_right 1
 focus
  intro c1;simp at c1;have:i=a.length:=(by omega);subst this;refine zW ?_
 rotate_right 1
 focus
  intro c1;simp at c1;have hw:=zU (i:=i) (by omega);obtain⟨x,_,d1,g1⟩:=kJ c1;obtain⟨y,_,d2,g2⟩:=kJ (l:=b) (i:=i) (by omega);refine zC ?_
 all_goals first|refine zR ?_|(
  refine zA ?_;refine wa_ (zG (wa_ (zB (wM (h:=W3 (h:=nE (h:=zA (wa_ (qE (yM (h:=yM (h:=?_))))))))))));refine y_ (x_ (h:=ax_ (h:=y_ (l_ (h:=ax_ (h:=yM (h:=yM (h:=y_ (x_ (h:=ax_ (h:=y_ (l_ (h:=ax_ (h:=y_ (bE (h:=ax_ (h:=qO (ed (h:=zA ?_)))))))))))))))))));refine c_ (h1:=?_) (h2:=?_)
  rotate_right 1
  focus
   intro c2;refine zC ?_
  rotate_right 1
  focus
   intro c2;refine wa_ (zB (W3 (h:=nE (h:=zA (zF ?_)))))
  all_goals first|refine zI ?_|refine zX ?_
  all_goals first|refine zK ?_|(
   refine zA ?_;refine zB (w_ (b_ (h:=wM (h:=nE (h:=?_)))))))
 all_goals first
 | (refine(ih (i+1) (by omega) ?_ _ ?_).trans ?_;(focus (first|omega|(simp;done)|(simp;omega)));(focus (simp[zH,hw];done));(focus (simp at c2;rw[d1,d2];simp[c2])))
 | (apply zP (ex:=Ext.ret) 2 (some [4]);(focus (simp[zH];rfl));(focus (simp at c2;rw[d1,d2];simp[c2])))
 | (apply zP (ex:=(Ext.exit 0)) 2 (some [4]);(focus (simp[zH];rfl));(focus (rw[if_pos (by simp[hab])])))
theorem qMt (a b:List Int) (z z':Nat) (ha:a.length<4000000000) (hb:b.length<4000000000):oc.call 133 [.lst false z (ints a),.lst false z' (ints b)]=some (.bool (decide (a=b)),[]):=by
 refine qA rfl qMd rfl rfl rfl (by simp;rfl) (by simp;rfl) ?_;refine wa_ (zB (W3 (h:=nE (h:=zA (wa_ (wa_ (zB (wM (h:=w_ (le (h:=wM (h:=w_ (le (h:=?_))))))))))))));refine w_ (bE (h:=nE (h:=zA ?_)));refine c_ (h1:=?_) (h2:=?_)
 rotate_right 1
 focus
  intro c1;simp at c1;refine zC ?_
 rotate_right 1
 focus
  intro c1;simp at c1;have hne:a≠b:=(by rintro rfl;exact c1 rfl);refine wa_ (zB (W3 (h:=nE (h:=zA (zF ?_)))))
 all_goals first|refine zK ?_|(
  refine zA ?_;refine wa_ (wa_ (zB (wM (h:=w_ (le (h:=wM (h:=nE (h:=zA (zG ?_)))))))));refine qY (l_eqG a b z z' ha (by omega) 0 (by omega) _ (by simp[zH])) ?_ ?_
  rotate_right 1
  focus
   intro c2
   skip
  rotate_right 1
  focus
   intro c2
   skip
  all_goals first|refine zX ?_|refine zS ?_
  all_goals first|refine zK ?_|(
   refine zA ?_;refine wa_ (zB (W3 (h:=nE (h:=zA (zF ?_)))))))
 all_goals (refine qX (hr:=(zL rfl zM)) (h:=?_);(focus (first|(simp_all;done)|(simp_all<;>omega)|(simp_all<;>split<;>simp_all<;>omega))))
theorem qMu (z z':Nat) (d g:Nd) (ha:d.cells.length<4000000) (hb:g.cells.length<4000000):oc.call 112 [d.v false z,g.v false z']=some (.bool (decide (d=g)),[]):=by
 refine qA rfl cd112 rfl rfl rfl (by simp;rfl) (by simp;rfl) ?_;refine wa_ (zB (w_ (bx (h:=w_ (bx (h:=W3 (h:=nE (h:=zA (wa_ (zB (w_ (f_ (h:=w_ (l_ (h:=w_ (f_ (h:=?_)))))))))))))))));refine w_ (l_ (h:=w_ (bE (h:=wM (h:=?_)))));refine gw_ (h1:=?_) (h2:=?_)
 rotate_right 1
 focus
  intro c1;first|exact dn c1|(
   have d1:=c1;try simp at d1
   refine go_ (h:=go_ (h:=go_ (h:=go_ (h:=go_ (h:=?_))))))
 rotate_right 1
 focus
  intro c1;first|exact dn c1|(
   have d1:=c1;try simp at d1
   refine g_ (h:=w_ (f_ (h:=g_ (h:=w_ (l_ (h:=g_ (h:=w_ (f_ (h:=g_ (h:=w_ (l_ (h:=g_ (h:=w_ (bE (h:=?_))))))))))))))))
 all_goals
  refine w_ (pk (h:=wM (h:=?_)));refine gw_ (h1:=?_) (h2:=?_)
  rotate_right 1
  focus
   intro c2;first|exact dn c2|(
    have d2:=c2;try simp at d2
    refine go_ (h:=go_ (h:=go_ (h:=go_ (h:=go_ (h:=?_))))))
  rotate_right 1
  focus
   intro c2;first|exact dn c2|(
    have d2:=c2;try simp at d2
    refine g_ (h:=w_ (f_ (h:=g_ (h:=w_ (l_ (h:=g_ (h:=w_ (f_ (h:=g_ (h:=w_ (l_ (h:=g_ (h:=w_ (bE (h:=?_))))))))))))))))
  all_goals
   refine w_ (pk (h:=wM (h:=?_)));refine gw_ (h1:=?_) (h2:=?_)
   rotate_right 1
   focus
    intro c3;first|exact dn c3|(
     have d3:=c3;try simp at d3
     refine go_ (h:=go_ (h:=go_ (h:=go_ (h:=go_ (h:=?_))))))
   rotate_right 1
   focus
    intro c3;first|exact dn c3|(
     have d3:=c3;try simp at d3
     refine g_ (h:=w_ (f_ (h:=g_ (h:=w_ (l_ (h:=g_ (h:=w_ (f_ (h:=g_ (h:=w_ (l_ (h:=g_ (h:=w_ (bE (h:=?_))))))))))))))))
   all_goals
    refine w_ (pk (h:=wM (h:=?_)));refine gw_ (h1:=?_) (h2:=?_)
    rotate_right 1
    focus
     intro c4;first|exact dn c4|(
      have d4:=c4;try simp at d4
      refine go_ (h:=go_ (h:=go_ (h:=go_ (h:=go_ (h:=?_))))))
    rotate_right 1
    focus
     intro c4;first|exact dn c4|(
      have d4:=c4;try simp at d4
      refine g_ (h:=w_ (f_ (h:=g_ (h:=w_ (l_ (h:=g_ (h:=w_ (f_ (h:=g_ (h:=w_ (l_ (h:=g_ (h:=w_ (bE (h:=?_))))))))))))))))
    all_goals
     refine w_ (pk (h:=wM (h:=?_)));refine gw_ (h1:=?_) (h2:=?_)
     rotate_right 1
     focus
      intro c5;first|exact dn c5|(
       have d5:=c5;try simp at d5
       refine go_ (h:=go_ (h:=go_ (h:=go_ (h:=go_ (h:=?_))))))
     rotate_right 1
     focus
      intro c5;first|exact dn c5|(
       have d5:=c5;try simp at d5
       refine g_ (h:=w_ (f_ (h:=g_ (h:=w_ (l_ (h:=g_ (h:=w_ (f_ (h:=g_ (h:=w_ (l_ (h:=g_ (h:=w_ (bE (h:=?_))))))))))))))))
     all_goals
      refine w_ (pk (h:=wM (h:=?_)));refine gw_ (h1:=?_) (h2:=?_)
      rotate_right 1
      focus
       intro c6;first|exact dn c6|(
        have d6:=c6;try simp at d6
        refine go_ (h:=go_ (h:=go_ (h:=go_ (h:=go_ (h:=?_))))))
      rotate_right 1
      focus
       intro c6;first|exact dn c6|(
        have d6:=c6;try simp at d6
        refine g_ (h:=w_ (f_ (h:=g_ (h:=w_ (l_ (h:=g_ (h:=w_ (f_ (h:=g_ (h:=w_ (l_ (h:=g_ (h:=w_ (ca (hc:=qMt _ _ _ _ (by omega) (by omega)) (h:=?_))))))))))))))))
      all_goals
       refine w_ (pk (h:=W3 (h:=nE (h:=?_))))
 all_goals first
 | (
  refine zA ?_;refine zF ?_)
 all_goals (refine qX (hr:=(zL rfl zM)) (h:=?_);(focus (simp[Nd.eq_iff];grind)))
def qB (d:Nd):List Int:=if d.op=1 then [] else if d.op=4\/d.op=6 then [d.a,d.b] else [d.a]
theorem zNg (z:Nat) (d:Nd):oc.call 103 [d.v false z]=some (.lst true 1 (ints (qB d)),[]):=by
 refine qA rfl cd103 rfl rfl rfl (by simp;rfl) (by simp;rfl) ?_;refine wa_ (zB (w_ (bx (h:=w_ (aN (h:=nE (h:=zA (wa_ (zG (wa_ (zB (w_ (f_ (h:=w_ (l_ (h:=?_))))))))))))))));refine w_ (bE (h:=W3 (h:=nE (h:=zA ?_))));refine c_ (h1:=?_) (h2:=?_)
 rotate_right 1
 focus
  intro c1;first|exact dn c1|(
   have d1:=c1;try simp at d1
   refine wa_ (zB (w_ (f_ (h:=w_ (l_ (h:=w_ (ca (hc:=zZp _) (h:=W3 (h:=nE (h:=zA ?_))))))))));refine c_ (h1:=?_) (h2:=?_)
   rotate_right 1
   focus
    intro c2;first|exact dn c2|(
     have d2:=c2;try simp at d2
     refine zC ?_)
   rotate_right 1
   focus
    intro c2;first|exact dn c2|(
     have d2:=c2;try simp at d2
     refine wa_ (zB (w_ (f_ (h:=w_ (l_ (h:=w_ (f_ (h:=w_ (l_ (h:=w_ (bs (h:=W3 (h:=nE (h:=zA (zF ?_)))))))))))))))))
 rotate_right 1
 focus
  intro c1;first|exact dn c1|(
   have d1:=c1;try simp at d1
   refine wa_ (zB (w_ (aN (h:=nE (h:=zA (zF ?_)))))))
 all_goals first|refine zI ?_|refine zX ?_
 all_goals first|refine zK ?_|(
  refine zA ?_;refine wa_ (zB (w_ (f_ (h:=w_ (l_ (h:=w_ (bs (h:=W3 (h:=nE (h:=zA (zF ?_))))))))))))
 all_goals (refine qX (hr:=(zL rfl zM)) (h:=?_);(focus (simp_all [qB])))
def zB0 (d:Nd):Nd:=⟨d.op,if d.op=1 then 0 else d.a,if d.op=4\/d.op=6 then d.b else 0,if d.op=1\/d.op=2\/6<=d.op/\d.op<=10 then d.col else 0,if d.op=2 then d.test else 0,if d.op=2 then d.value else 0,if d.op=3 then d.cells else []⟩
theorem zXr (z:Nat) (d:Nd) (h:d.op=3):oc.call 113 [d.v false z]=some ((zB0 d).v false z,[]):=by
 refine qA rfl qJz rfl rfl rfl (by simp;rfl) (by simp;rfl) ?_;refine wa_ (zB (w_ (bx (h:=w_ (al (h:=nE (h:=zA (wa_ (zB (w_ (f_ (h:=w_ (l_ (h:=w_ (bd (h:=w_ (al (h:=?_))))))))))))))))));refine w0 (s_ (h:=nE (h:=zA (wa_ (wa_ (zB (w_ (f_ (h:=w_ (l_ (h:=w_ (bE (h:=nE (h:=zA ?_))))))))))))));refine c_ (h1:=?_) (h2:=?_)
 rotate_right 1
 focus
  intro c1;first|exact dn c1|(
   have d1:=c1;try simp at d1
   refine zC ?_)
 rotate_right 1
 focus
  intro c1;first|exact dn c1|(
   have d1:=c1;try simp at d1
   refine zB (w_ (f_ (h:=w_ (l_ (h:=w_ (f_ (h:=w0 (s_ (h:=nE (h:=?_)))))))))))
 all_goals first
 | (
  refine zA ?_;refine wa_ (wa_ (zB (w_ (f_ (h:=w_ (l_ (h:=w_ (ca (hc:=zZp _) (h:=nE (h:=zA ?_))))))))));refine c_ (h1:=?_) (h2:=?_)
  rotate_right 1
  focus
   intro c2;first|exact dn c2|(
    have d2:=c2;try simp at d2
    refine zC ?_)
  rotate_right 1
  focus
   intro c2;first|exact dn c2|(
    have d2:=c2;try simp at d2
    refine zB (w_ (f_ (h:=w_ (l_ (h:=w_ (f_ (h:=w0 (s_ (h:=nE (h:=?_)))))))))))
  all_goals first
  | (
   refine zA ?_;refine wa_ (wa_ (zB (w_ (f_ (h:=w_ (l_ (h:=nE (h:=zA (zG (wa_ (wa_ (zB (w_ (bE (h:=?_)))))))))))))));refine W3 (h:=nE (h:=zA ?_));refine c_ (h1:=?_) (h2:=?_)
   rotate_right 1
   focus
    intro c3;first|exact dn c3|(
     have d3:=c3;try simp at d3
     refine wa_ (zB (w_ (bE (h:=W3 (h:=nE (h:=zA ?_))))));refine c_ (h1:=?_) (h2:=?_)
     rotate_right 1
     focus
      intro c4;first|exact dn c4|(
       have d4:=c4;try simp at d4
       refine wa_ (zB (w_ (bE (h:=W3 (h:=nE (h:=zA ?_))))));refine c_ (h1:=?_) (h2:=?_)
       rotate_right 1
       focus
        intro c5;first|exact dn c5|(
         have d5:=c5;try simp at d5
         refine wa_ (zB (w_ (bE (h:=W3 (h:=nE (h:=zA ?_))))));refine c_ (h1:=?_) (h2:=?_)
         rotate_right 1
         focus
          intro c6;first|exact dn c6|(
           have d6:=c6;try simp at d6
           refine wa_ (zB (w_ (bE (h:=W3 (h:=nE (h:=zA ?_))))));refine c_ (h1:=?_) (h2:=?_)
           rotate_right 1
           focus
            intro c7;first|exact dn c7|(
             have d7:=c7;try simp at d7
             refine zB (w_ (bE (h:=W3 (h:=nE (h:=?_))))))
           rotate_right 1
           focus
            intro c7;first|exact dn c7|(
             have d7:=c7;try simp at d7
             refine zC ?_))
         rotate_right 1
         focus
          intro c6;first|exact dn c6|(
           have d6:=c6;try simp at d6
           refine zC ?_))
       rotate_right 1
       focus
        intro c5;first|exact dn c5|(
         have d5:=c5;try simp at d5
         refine zC ?_))
     rotate_right 1
     focus
      intro c4;first|exact dn c4|(
       have d4:=c4;try simp at d4
       refine zC ?_))
   rotate_right 1
   focus
    intro c3;first|exact dn c3|(
     have d3:=c3;try simp at d3
     refine zC ?_)
   all_goals first
   | (
    refine zA ?_;refine c_ (h1:=?_) (h2:=?_)
    rotate_right 1
    focus
     intro c8;first|exact dn c8|(
      have d8:=c8;try simp at d8
      refine wa_ (zB (w_ (bE (h:=W3 (h:=nE (h:=zA ?_))))));refine c_ (h1:=?_) (h2:=?_)
      rotate_right 1
      focus
       intro c9;first|exact dn c9|(
        have d9:=c9;try simp at d9
        refine wa_ (zB (w_ (bE (h:=W3 (h:=nE (h:=zA ?_))))));refine c_ (h1:=?_) (h2:=?_)
        rotate_right 1
        focus
         intro c10;first|exact dn c10|(
          have d10:=c10;try simp at d10
          refine zC ?_)
        rotate_right 1
        focus
         intro c10;first|exact dn c10|(
          have d10:=c10;try simp at d10
          refine zB (w_ (f_ (h:=w_ (l_ (h:=w_ (f_ (h:=w0 (s_ (h:=nE (h:=?_))))))))))))
      rotate_right 1
      focus
       intro c9;first|exact dn c9|(
        have d9:=c9;try simp at d9
        refine qE (y_ (f_ (h:=ax_ (h:=y_ (l_ (h:=ax_ (h:=y_ (f_ (h:=ax_ (h:=y_ (l_ (h:=ax_ (h:=y_ (f_ (h:=ax_ (h:=y_ (l_ (h:=ax_ (h:=y_ (f_ (h:=ax_ (h:=y0 (s_ (h:=ax_ (h:=y_ (f_ (h:=ax_ (h:=y0 (s_ (h:=ax_ (h:=y_ (f_ (h:=ax_ (h:=?_))))))))))))))))))))))))))))))))));refine y0 (s_ (h:=ax_ (h:=qO (ed (h:=?_)))))))
    rotate_right 1
    focus
     intro c8;first|exact dn c8|(
      have d8:=c8;try simp at d8
      refine zB (w_ (f_ (h:=w_ (l_ (h:=w_ (f_ (h:=w0 (s_ (h:=nE (h:=?_))))))))))))
   all_goals refine zI ?_
   all_goals first
   | (
    refine zA ?_;refine wa_ (zB (w_ (l_ (h:=w0 (s_ (h:=nE (h:=zA (zF ?_)))))))))))
 all_goals (refine qX (hr:=(vY (tys_ok.zero _ _ rfl) rfl (by simp;rfl) (by rfl) zM)) (h:=?_);(focus (simp[Nd.v,zB0];grind)))
theorem qC0 (z:Nat) (d:Nd) (h:d.op≠3):oc.call 113 [d.v false z]=some ((zB0 d).v true 1,[]):=by
 refine qA rfl qJz rfl rfl rfl (by simp;rfl) (by simp;rfl) ?_;refine wa_ (zB (w_ (bx (h:=w_ (al (h:=nE (h:=zA (wa_ (zB (w_ (f_ (h:=w_ (l_ (h:=w_ (bd (h:=w_ (al (h:=?_))))))))))))))))));refine w0 (s_ (h:=nE (h:=zA (wa_ (wa_ (zB (w_ (f_ (h:=w_ (l_ (h:=w_ (bE (h:=nE (h:=zA ?_))))))))))))));refine c_ (h1:=?_) (h2:=?_)
 rotate_right 1
 focus
  intro c1;first|exact dn c1|(
   have d1:=c1;try simp at d1
   refine zC ?_)
 rotate_right 1
 focus
  intro c1;first|exact dn c1|(
   have d1:=c1;try simp at d1
   refine zB (w_ (f_ (h:=w_ (l_ (h:=w_ (f_ (h:=w0 (s_ (h:=nE (h:=?_)))))))))))
 all_goals first
 | (
  refine zA ?_;refine wa_ (wa_ (zB (w_ (f_ (h:=w_ (l_ (h:=w_ (ca (hc:=zZp _) (h:=nE (h:=zA ?_))))))))));refine c_ (h1:=?_) (h2:=?_)
  rotate_right 1
  focus
   intro c2;first|exact dn c2|(
    have d2:=c2;try simp at d2
    refine zC ?_)
  rotate_right 1
  focus
   intro c2;first|exact dn c2|(
    have d2:=c2;try simp at d2
    refine zB (w_ (f_ (h:=w_ (l_ (h:=w_ (f_ (h:=w0 (s_ (h:=nE (h:=?_)))))))))))
  all_goals first
  | (
   refine zA ?_;refine wa_ (wa_ (zB (w_ (f_ (h:=w_ (l_ (h:=nE (h:=zA (zG (wa_ (wa_ (zB (w_ (bE (h:=?_)))))))))))))));refine W3 (h:=nE (h:=zA ?_));refine c_ (h1:=?_) (h2:=?_)
   rotate_right 1
   focus
    intro c3;first|exact dn c3|(
     have d3:=c3;try simp at d3
     refine wa_ (zB (w_ (bE (h:=W3 (h:=nE (h:=zA ?_))))));refine c_ (h1:=?_) (h2:=?_)
     rotate_right 1
     focus
      intro c4;first|exact dn c4|(
       have d4:=c4;try simp at d4
       refine wa_ (zB (w_ (bE (h:=W3 (h:=nE (h:=zA ?_))))));refine c_ (h1:=?_) (h2:=?_)
       rotate_right 1
       focus
        intro c5;first|exact dn c5|(
         have d5:=c5;try simp at d5
         refine wa_ (zB (w_ (bE (h:=W3 (h:=nE (h:=zA ?_))))));refine c_ (h1:=?_) (h2:=?_)
         rotate_right 1
         focus
          intro c6;first|exact dn c6|(
           have d6:=c6;try simp at d6
           refine wa_ (zB (w_ (bE (h:=W3 (h:=nE (h:=zA ?_))))));refine c_ (h1:=?_) (h2:=?_)
           rotate_right 1
           focus
            intro c7;first|exact dn c7|(
             have d7:=c7;try simp at d7
             refine zB (w_ (bE (h:=W3 (h:=nE (h:=?_))))))
           rotate_right 1
           focus
            intro c7;first|exact dn c7|(
             have d7:=c7;try simp at d7
             refine zC ?_))
         rotate_right 1
         focus
          intro c6;first|exact dn c6|(
           have d6:=c6;try simp at d6
           refine zC ?_))
       rotate_right 1
       focus
        intro c5;first|exact dn c5|(
         have d5:=c5;try simp at d5
         refine zC ?_))
     rotate_right 1
     focus
      intro c4;first|exact dn c4|(
       have d4:=c4;try simp at d4
       refine zC ?_))
   rotate_right 1
   focus
    intro c3;first|exact dn c3|(
     have d3:=c3;try simp at d3
     refine zC ?_)
   all_goals first
   | (
    refine zA ?_;refine c_ (h1:=?_) (h2:=?_)
    rotate_right 1
    focus
     intro c8;first|exact dn c8|(
      have d8:=c8;try simp at d8
      refine wa_ (zB (w_ (bE (h:=W3 (h:=nE (h:=zA ?_))))));refine c_ (h1:=?_) (h2:=?_)
      rotate_right 1
      focus
       intro c9;first|exact dn c9|(
        have d9:=c9;try simp at d9
        refine wa_ (zB (w_ (bE (h:=W3 (h:=nE (h:=zA ?_))))));refine c_ (h1:=?_) (h2:=?_)
        rotate_right 1
        focus
         intro c10;first|exact dn c10|(
          have d10:=c10;try simp at d10
          refine zC ?_)
        rotate_right 1
        focus
         intro c10;first|exact dn c10|(
          have d10:=c10;try simp at d10
          refine zB (w_ (f_ (h:=w_ (l_ (h:=w_ (f_ (h:=w0 (s_ (h:=nE (h:=?_))))))))))))
      rotate_right 1
      focus
       intro c9;first|exact dn c9|(
        have d9:=c9;try simp at d9
        refine qE (y_ (f_ (h:=ax_ (h:=y_ (l_ (h:=ax_ (h:=y_ (f_ (h:=ax_ (h:=y_ (l_ (h:=ax_ (h:=y_ (f_ (h:=ax_ (h:=y_ (l_ (h:=ax_ (h:=y_ (f_ (h:=ax_ (h:=y0 (s_ (h:=ax_ (h:=y_ (f_ (h:=ax_ (h:=y0 (s_ (h:=ax_ (h:=y_ (f_ (h:=ax_ (h:=?_))))))))))))))))))))))))))))))))));refine y0 (s_ (h:=ax_ (h:=qO (ed (h:=?_)))))))
    rotate_right 1
    focus
     intro c8;first|exact dn c8|(
      have d8:=c8;try simp at d8
      refine zB (w_ (f_ (h:=w_ (l_ (h:=w_ (f_ (h:=w0 (s_ (h:=nE (h:=?_))))))))))))
   all_goals refine zI ?_
   all_goals first
   | (
    refine zA ?_;refine wa_ (zB (w_ (l_ (h:=w0 (s_ (h:=nE (h:=zA (zF ?_)))))))))))
 all_goals (refine qX (hr:=(vY (tys_ok.zero _ _ rfl) rfl (by simp;rfl) (by rfl) zM)) (h:=?_);(focus (simp[Nd.v,zB0,h];grind)))
def at0 (w:List Int) (a:Int):Int:=w.getD a.toNat 0
theorem yC {w:List Int} {a:Int} (h0:0<=a) (h:a<w.length):(ints w)[a.toNat]? = some (.int .i64 (at0 w a)):=by
 have:a.toNat<w.length:=by omega
 simp[ints,at0,this]
def kL (d:Nd) (w:List Int):Int :=
 if d.op=1 then d.col else if d.op=3 then d.cells.length else if d.op=6 then IntKind.i64.wrap (IntKind.i64.wrap (at0 w d.a+at0 w d.b) - d.col) else if inI d.op 7 10 then IntKind.i64.wrap (d.col+1) else at0 w d.a
def qE7 (d:Nd) (m:Nat):Prop:=(d.op≠1->0<=d.a/\d.a<m)/\(d.op=4\/d.op=6->0<=d.b/\d.b<m)
theorem zUr (z z':Nat) (d:Nd) (w:List Int) (hd:d.cells.length<4000000) (h:qE7 d w.length):oc.call 115 [d.v false z,.lst false z' (ints w)]=some (.int .i64 (kL d w),[]):=by
 refine qA rfl cd115 rfl rfl rfl (by simp;rfl) (by simp;rfl) ?_;obtain⟨h1,h2⟩:=h;refine wa_ (zB (w_ (bx (h:=W3 (h:=nE (h:=zA (wa_ (zG (wa_ (zB (w_ (f_ (h:=w_ (l_ (h:=?_)))))))))))))));refine w_ (bE (h:=W3 (h:=nE (h:=zA ?_))));refine c_ (h1:=?_) (h2:=?_)
 rotate_right 1
 focus
  intro c1;first|exact dn c1|(
   have d1:=c1;try simp at d1
   refine wa_ (zB (w_ (f_ (h:=w_ (l_ (h:=w_ (bE (h:=W3 (h:=nE (h:=zA ?_))))))))));refine c_ (h1:=?_) (h2:=?_)
   rotate_right 1
   focus
    intro c2;first|exact dn c2|(
     have d2:=c2;try simp at d2
     refine wa_ (zB (w_ (f_ (h:=w_ (l_ (h:=w_ (bE (h:=W3 (h:=nE (h:=zA ?_))))))))));refine c_ (h1:=?_) (h2:=?_)
     rotate_right 1
     focus
      intro c3;first|exact dn c3|(
       have d3:=c3;try simp at d3
       refine wa_ (zB (w_ (f_ (h:=w_ (l_ (h:=w_ (ca (hc:=zL6 _) (h:=W3 (h:=nE (h:=zA ?_))))))))));refine c_ (h1:=?_) (h2:=?_)
       rotate_right 1
       focus
        intro c4;first|exact dn c4|(
         have d4:=c4;try simp at d4
         have h3:=(h1 (by omega)).1;have h4:=(h1 (by omega)).2;have g1:=yC h3 h4;refine zC ?_)
       rotate_right 1
       focus
        intro c4;first|exact dn c4|(
         have d4:=c4;try simp at d4
         refine wa_ (zB (w_ (f_ (h:=w_ (l_ (h:=w_ (b_ (h:=W3 (h:=nE (h:=zA (zF ?_)))))))))))))
     rotate_right 1
     focus
      intro c3;first|exact dn c3|(
       have d3:=c3;try simp at d3
       obtain⟨h3,h4⟩:=h1 (by omega);obtain⟨h5,h6⟩:=h2 (by omega);have g1:=yC h3 h4;have g2:=yC h5 h6;refine wa_ (qE (yM (h:=y_ (f_ (h:=ax_ (h:=y_ (l_ (h:=ax_ (h:=y_ (x_ (h:=ax_ (h:=y_ (l_ (h:=ax_ (h:=yM (h:=y_ (f_ (h:=ax_ (h:=y_ (l_ (h:=ax_ (h:=y_ (x_ (h:=ax_ (h:=y_ (l_ (h:=ax_ (h:=?_))))))))))))))))))))))))))));refine y_ (b_ (h:=ax_ (h:=y_ (f_ (h:=ax_ (h:=y_ (l_ (h:=ax_ (h:=y_ (b_ (h:=ax_ (h:=y_ (a_ (h:=ax_ (h:=qO (ed (h:=zA (zF ?_))))))))))))))))))))
   rotate_right 1
   focus
    intro c2;first|exact dn c2|(
     have d2:=c2;try simp at d2
     refine wa_ (zB (w_ (f_ (h:=w_ (l_ (h:=w_ (ca (hc:=zQn 0 (ints d.cells) (by simp;omega)) (h:=W3 (h:=nE (h:=zA (zF ?_)))))))))))))
 rotate_right 1
 focus
  intro c1;first|exact dn c1|(
   have d1:=c1;try simp at d1
   refine wa_ (zB (w_ (f_ (h:=w_ (l_ (h:=W3 (h:=nE (h:=zA (zF ?_))))))))))
 all_goals first|refine zI ?_|refine zX ?_
 all_goals first|refine zK ?_|(
  refine zA ?_;refine wa_ (zB (wM (h:=w_ (f_ (h:=w_ (l_ (h:=w_ (x_ (h:=w_ (l_ (h:=W3 (h:=nE (h:=zA (zF ?_)))))))))))))))
 all_goals (refine qX (hr:=(zL rfl zM)) (h:=?_);(focus (simp[kL];grind [inI])))
def zBe (d:Nd) (w:List Int):Int :=
 if d.op=1 then(if inI d.col 1 3 then 0 else 3)
 else if d.op=2 then(if inI d.col 0 (IntKind.i64.wrap (at0 w d.a - 1))&&(inI d.test 0 2&&inI d.value (-1000000000) 1000000000) then 0 else 3)
 else if d.op=3 then(if inI d.cells.length 1 4 then(if d.cells.all fun c=>inI c 0 (IntKind.i64.wrap (at0 w d.a - 1)) then 0 else 3) else 2)
 else if d.op=4 then(if at0 w d.a=at0 w d.b then 0 else 1)
 else if d.op=6 then(if inI d.col 1 (min (at0 w d.a) (at0 w d.b)) then(if 4<kL d w then 2 else 0) else 3)
 else if d.op=7 then(if inI d.col 0 (min (at0 w d.a) 3) then 0 else 3)
 else if 8<=d.op/\d.op<=10 then(if inI d.col 0 (IntKind.i64.wrap (at0 w d.a - 1)) then 0 else 3)
 else 0
theorem qFa (z z':Nat) (d:Nd) (w:List Int) (hd:d.cells.length<4000000) (h0:0<=d.a) (h1:d.a<w.length):∀i:Nat,i<=d.cells.length->∀s,zH 2 (some [1,2,47,48,49]) s=⟨[(1,.lst false z' (ints w)),(2,.ptr 2 0 []),(47,.lst false z (ints d.cells)),(48,.int .i64 d.cells.length),(49,.int .i64 i)],[(2,⟨true,false,7,[d.v false z],0⟩)],3⟩ ->
 oc.loop 114 12 s=some (if((d.cells.drop i).all fun c=>inI c 0 (IntKind.i64.wrap (at0 w d.a - 1)))=true then(.exit 1,⟨[],[],2⟩) else(.ret,⟨[(4,.int .i64 3)],[],2⟩)):=by
 refine zV (fun i=>d.cells.length - i) _ (fun i=>⟨[(1,.lst false z' (ints w)),(2,.ptr 2 0 []),(47,.lst false z (ints d.cells)),(48,.int .i64 d.cells.length),(49,.int .i64 i)],[(2,⟨true,false,7,[d.v false z],0⟩)],3⟩) _ ?_;intro i hi ih s hs;refine qD qKd rfl rfl hs ?_;refine wa_ (zB (w_ (b_ (h:=nE (h:=zA (wa_ ?_))))));refine c_ (h1:=?_) (h2:=?_)
 rotate_right 1
 focus
  intro c1;simp at c1;have:i=d.cells.length:=(by omega);subst this;refine zW ?_
 rotate_right 1
 focus
  intro c1;simp at c1;have hw:=zU (i:=i) (by omega);obtain⟨x,_,d1,g1⟩:=kJ c1;have g2:=yC h0 h1;refine zC ?_
 all_goals first|refine zR ?_|(
  refine zA ?_;refine wa_ (zG (wa_ (zB (w_ (x_ (h:=w_ (l_ (h:=W3 (h:=nE (h:=zA (wa_ (zB (wM (h:=?_))))))))))))));refine wM (h:=w_ (f_ (h:=w_ (l_ (h:=w_ (x_ (h:=w_ (l_ (h:=w_ (b_ (h:=w_ (ca (hc:=zFp _ _ _) (h:=w_ (u_ (h:=nE (h:=zA ?_))))))))))))))));refine c_ (h1:=?_) (h2:=?_)
  rotate_right 1
  focus
   intro c2;refine zC ?_
  rotate_right 1
  focus
   intro c2;refine wa_ (zB (W3 (h:=nE (h:=zA (zF ?_)))))
  all_goals first|refine zI ?_|refine zX ?_
  all_goals first|refine zK ?_|(
   refine zA ?_;refine zB (w_ (b_ (h:=wM (h:=nE (h:=?_)))))))
 all_goals first
 | (refine(ih (i+1) (by omega) ?_ _ ?_).trans ?_;(focus (first|omega|(simp;done)|(simp;omega)));(focus (simp[zH,hw];done));(focus (rw[d1];simp at c2 ⊢;grind)))
 | (apply zP (ex:=Ext.ret) 2 (some [4]);(focus (simp[zH];rfl));(focus (rw[d1];simp at c2 ⊢;grind)))
 | (apply zP (ex:=(Ext.exit 1)) 2 (some [4]);(focus (simp[zH];rfl));(focus (simp)))
theorem qCw (z z':Nat) (d:Nd) (w:List Int) (hd:d.cells.length<4000000) (h:qE7 d w.length) (ho:1<=d.op/\d.op<=12):oc.call 114 [d.v false z,.lst false z' (ints w)]=some (.int .i64 (zBe d w),[]):=by
 refine qA rfl qKd rfl rfl rfl (by simp;rfl) (by simp;rfl) ?_;obtain⟨k1,k2⟩:=h;refine wa_ (zB (w_ (bx (h:=W3 (h:=nE (h:=zA (wa_ (wa_ (zB (w_ (f_ (h:=w_ (l_ (h:=nE (h:=?_)))))))))))))));refine zA (zG (wa_ (zB (w_ (bE (h:=W3 (h:=nE (h:=zA ?_))))))));refine c_ (h1:=?_) (h2:=?_)
 rotate_right 1
 focus
  intro c1;first|exact dn c1|(
   have d1:=c1;try simp at d1
   refine wa_ (zB (w_ (bE (h:=W3 (h:=nE (h:=zA ?_))))));refine c_ (h1:=?_) (h2:=?_)
   rotate_right 1
   focus
    intro c2;first|exact dn c2|(
     have d2:=c2;try simp at d2
     refine wa_ (zB (w_ (bE (h:=W3 (h:=nE (h:=zA ?_))))));refine c_ (h1:=?_) (h2:=?_)
     rotate_right 1
     focus
      intro c3;first|exact dn c3|(
       have d3:=c3;try simp at d3
       refine wa_ (zB (w_ (bE (h:=W3 (h:=nE (h:=zA ?_))))));refine c_ (h1:=?_) (h2:=?_)
       rotate_right 1
       focus
        intro c4;first|exact dn c4|(
         have d4:=c4;try simp at d4
         refine wa_ (zB (w_ (bE (h:=W3 (h:=nE (h:=zA ?_))))));refine c_ (h1:=?_) (h2:=?_)
         rotate_right 1
         focus
          intro c5;first|exact dn c5|(
           have d5:=c5;try simp at d5
           refine wa_ (zB (w_ (bE (h:=W3 (h:=nE (h:=zA ?_))))));refine c_ (h1:=?_) (h2:=?_)
           rotate_right 1
           focus
            intro c6;first|exact dn c6|(
             have d6:=c6;try simp at d6
             refine wa_ (wa_ (zB (w_ (bE (h:=W3 (h:=nE (h:=zA ?_)))))));refine c_ (h1:=?_) (h2:=?_)
             rotate_right 1
             focus
              intro c7;first|exact dn c7|(
               have d7:=c7;try simp at d7
               refine wa_ (zB (w_ (bE (h:=W3 (h:=nE (h:=zA ?_))))));refine c_ (h1:=?_) (h2:=?_)
               rotate_right 1
               focus
                intro c8;first|exact dn c8|(
                 have d8:=c8;try simp at d8
                 refine zB (w_ (bE (h:=W3 (h:=nE (h:=?_))))))
               rotate_right 1
               focus
                intro c8;first|exact dn c8|(
                 have d8:=c8;try simp at d8
                 refine zC ?_))
             rotate_right 1
             focus
              intro c7;first|exact dn c7|(
               have d7:=c7;try simp at d7
               refine zC ?_)
             all_goals first
             | (
              refine zA ?_;refine c_ (h1:=?_) (h2:=?_)
              rotate_right 1
              focus
               intro c9;first|exact dn c9|(
                have d9:=c9;try simp at d9
                refine zC ?_)
              rotate_right 1
              focus
               intro c9;first|exact dn c9|(
                have d9:=c9;try simp at d9
                obtain⟨h3,h4⟩:=k1 (by omega);have g1:=yC h3 h4;refine wa_ (qE (y_ (f_ (h:=ax_ (h:=y_ (l_ (h:=ax_ (h:=yM (h:=y_ (f_ (h:=ax_ (h:=y_ (l_ (h:=ax_ (h:=y_ (x_ (h:=ax_ (h:=y_ (l_ (h:=ax_ (h:=y_ (b_ (h:=ax_ (h:=y_ (ca (hc:=zFp _ _ _) (h:=ax_ (h:=y_ (u_ (h:=ax_ (h:=?_))))))))))))))))))))))))))))));refine qO (ed (h:=zA ?_));refine c_ (h1:=?_) (h2:=?_)
                rotate_right 1
                focus
                 intro c10;first|exact dn c10|(
                  have d10:=c10;try simp at d10
                  refine zC ?_)
                rotate_right 1
                focus
                 intro c10;first|exact dn c10|(
                  have d10:=c10;try simp at d10
                  refine wa_ (zB (W3 (h:=nE (h:=zA (zF ?_)))))))))
           rotate_right 1
           focus
            intro c6;first|exact dn c6|(
             have d6:=c6;try simp at d6
             obtain⟨h3,h4⟩:=k1 (by omega);have g1:=yC h3 h4;refine wa_ (qE (y_ (f_ (h:=ax_ (h:=y_ (l_ (h:=ax_ (h:=yM (h:=y_ (f_ (h:=ax_ (h:=y_ (l_ (h:=ax_ (h:=y_ (x_ (h:=ax_ (h:=y_ (l_ (h:=ax_ (h:=y_ (mi (h:=ax_ (h:=y_ (ca (hc:=zFp _ _ _) (h:=ax_ (h:=y_ (u_ (h:=ax_ (h:=?_))))))))))))))))))))))))))))));refine qO (ed (h:=zA ?_));refine c_ (h1:=?_) (h2:=?_)
             rotate_right 1
             focus
              intro c11;first|exact dn c11|(
               have d11:=c11;try simp at d11
               refine zC ?_)
             rotate_right 1
             focus
              intro c11;first|exact dn c11|(
               have d11:=c11;try simp at d11
               refine wa_ (zB (W3 (h:=nE (h:=zA (zF ?_))))))))
         rotate_right 1
         focus
          intro c5;first|exact dn c5|(
           have d5:=c5;try simp at d5
           obtain⟨h3,h4⟩:=k1 (by omega);have g1:=yC h3 h4;obtain⟨h5,h6⟩:=k2 (by omega);have g2:=yC h5 h6;refine wa_ (wa_ (qE (y_ (f_ (h:=ax_ (h:=y_ (l_ (h:=ax_ (h:=yM (h:=y_ (f_ (h:=ax_ (h:=y_ (l_ (h:=ax_ (h:=y_ (x_ (h:=ax_ (h:=y_ (l_ (h:=ax_ (h:=yM (h:=y_ (f_ (h:=ax_ (h:=?_))))))))))))))))))))))))));refine y_ (l_ (h:=ax_ (h:=y_ (x_ (h:=ax_ (h:=y_ (l_ (h:=ax_ (h:=y_ (mi (h:=ax_ (h:=y_ (ca (hc:=zFp _ _ _) (h:=ax_ (h:=y_ (u_ (h:=ax_ (h:=qO (ed (h:=zA ?_))))))))))))))))))));refine c_ (h1:=?_) (h2:=?_)
           rotate_right 1
           focus
            intro c12;first|exact dn c12|(
             have d12:=c12;try simp at d12
             refine zC ?_)
           rotate_right 1
           focus
            intro c12;first|exact dn c12|(
             have d12:=c12;try simp at d12
             refine wa_ (zB (W3 (h:=nE (h:=zA (zF ?_))))))
           all_goals first|refine zK ?_|(
            refine zA ?_;refine wa_ (zB (w_ (l_ (h:=wM (h:=w_ (ca (hc:=zUr 0 0 d w hd ⟨k1,k2⟩) (h:=w_ (b_ (h:=nE (h:=zA ?_))))))))));refine c_ (h1:=?_) (h2:=?_)
            rotate_right 1
            focus
             intro c13;first|exact dn c13|(
              have d13:=c13;try simp at d13
              refine zC ?_)
            rotate_right 1
            focus
             intro c13;first|exact dn c13|(
              have d13:=c13;try simp at d13
              refine wa_ (zB (W3 (h:=nE (h:=zA (zF ?_)))))))))
       rotate_right 1
       focus
        intro c4;first|exact dn c4|(
         have d4:=c4;try simp at d4
         obtain⟨h3,h4⟩:=k1 (by omega);have g1:=yC h3 h4;obtain⟨h5,h6⟩:=k2 (by omega);have g2:=yC h5 h6;refine wa_ (qE (yM (h:=y_ (f_ (h:=ax_ (h:=y_ (l_ (h:=ax_ (h:=y_ (x_ (h:=ax_ (h:=y_ (l_ (h:=ax_ (h:=yM (h:=y_ (f_ (h:=ax_ (h:=y_ (l_ (h:=ax_ (h:=y_ (x_ (h:=ax_ (h:=y_ (l_ (h:=ax_ (h:=?_))))))))))))))))))))))))))));refine y_ (bE (h:=ax_ (h:=qO (ed (h:=zA ?_)))));refine c_ (h1:=?_) (h2:=?_)
         rotate_right 1
         focus
          intro c14;first|exact dn c14|(
           have d14:=c14;try simp at d14
           refine zC ?_)
         rotate_right 1
         focus
          intro c14;first|exact dn c14|(
           have d14:=c14;try simp at d14
           refine wa_ (zB (W3 (h:=nE (h:=zA (zF ?_))))))))
     rotate_right 1
     focus
      intro c3;first|exact dn c3|(
       have d3:=c3;try simp at d3
       obtain⟨h3,h4⟩:=k1 (by omega);have g1:=yC h3 h4;refine wa_ (wa_ (zB (w_ (f_ (h:=w_ (l_ (h:=w_ (ca (hc:=zQn 0 (ints d.cells) (by simp;omega)) (h:=w_ (ca (hc:=zFp _ _ _) (h:=w_ (u_ (h:=nE (h:=zA ?_))))))))))))));refine c_ (h1:=?_) (h2:=?_)
       rotate_right 1
       focus
        intro c15;first|exact dn c15|(
         have d15:=c15;try simp at d15
         refine zC ?_)
       rotate_right 1
       focus
        intro c15;first|exact dn c15|(
         have d15:=c15;try simp at d15
         refine wa_ (zB (W3 (h:=nE (h:=zA (zF ?_))))))
       all_goals first|refine zK ?_|(
        refine zA ?_;refine wa_ (zB (w_ (f_ (h:=w_ (l_ (h:=w_ (le (h:=wM (h:=nE (h:=zA (zG ?_)))))))))));refine qY (qFa z z' d w hd h3 h4 0 (by omega) _ (by simp[zH])) ?_ ?_
        rotate_right 1
        focus
         intro c16;first|exact dn c16|(
          have d16:=c16;try simp at d16
          skip)
        rotate_right 1
        focus
         intro c16;first|exact dn c16|(
          have d16:=c16;try simp at d16
          skip)
        all_goals first|refine zX ?_|refine zS ?_)))
   rotate_right 1
   focus
    intro c2;first|exact dn c2|(
     have d2:=c2;try simp at d2
     obtain⟨h3,h4⟩:=k1 (by omega);have g1:=yC h3 h4;refine wa_ (qE (y_ (f_ (h:=ax_ (h:=y_ (l_ (h:=ax_ (h:=yM (h:=y_ (f_ (h:=ax_ (h:=y_ (l_ (h:=ax_ (h:=y_ (x_ (h:=ax_ (h:=y_ (l_ (h:=ax_ (h:=y_ (b_ (h:=ax_ (h:=y_ (ca (hc:=zFp _ _ _) (h:=ax_ (h:=y_ (u_ (h:=ax_ (h:=?_))))))))))))))))))))))))))))));refine yM (h:=?_);refine gw_ (h1:=?_) (h2:=?_)
     rotate_right 1
     focus
      intro c17;first|exact dn c17|(
       have d17:=c17;try simp at d17
       refine gd_ (h:=gd_ (h:=gd_ (h:=gd_ (h:=?_)))))
     rotate_right 1
     focus
      intro c17;first|exact dn c17|(
       have d17:=c17;try simp at d17
       refine g_ (h:=y_ (f_ (h:=ax_ (h:=g_ (h:=y_ (l_ (h:=ax_ (h:=g_ (h:=y_ (ca (hc:=zFp _ _ _) (h:=ax_ (h:=g_ (h:=y_ (u_ (h:=ax_ (h:=?_)))))))))))))))))
     all_goals
      refine y_ (pk (h:=ax_ (h:=yM (h:=?_))));refine gw_ (h1:=?_) (h2:=?_)
      rotate_right 1
      focus
       intro c18;first|exact dn c18|(
        have d18:=c18;try simp at d18
        refine gd_ (h:=gd_ (h:=gd_ (h:=gd_ (h:=?_)))))
      rotate_right 1
      focus
       intro c18;first|exact dn c18|(
        have d18:=c18;try simp at d18
        refine g_ (h:=y_ (f_ (h:=ax_ (h:=g_ (h:=y_ (l_ (h:=ax_ (h:=g_ (h:=y_ (ca (hc:=zFp _ _ _) (h:=ax_ (h:=g_ (h:=y_ (u_ (h:=ax_ (h:=?_)))))))))))))))))
      all_goals
       refine y_ (pk (h:=ax_ (h:=qO (ed (h:=?_)))))
     all_goals first
     | (
      refine zA ?_;refine c_ (h1:=?_) (h2:=?_)
      rotate_right 1
      focus
       intro c19;first|exact dn c19|(
        have d19:=c19;try simp at d19
        refine zC ?_)
      rotate_right 1
      focus
       intro c19;first|exact dn c19|(
        have d19:=c19;try simp at d19
        refine wa_ (zB (W3 (h:=nE (h:=zA (zF ?_)))))))))
 rotate_right 1
 focus
  intro c1;first|exact dn c1|(
   have d1:=c1;try simp at d1
   refine wa_ (zB (w_ (f_ (h:=w_ (l_ (h:=w_ (ca (hc:=zFp _ _ _) (h:=w_ (u_ (h:=nE (h:=zA ?_)))))))))));refine c_ (h1:=?_) (h2:=?_)
   rotate_right 1
   focus
    intro c20;first|exact dn c20|(
     have d20:=c20;try simp at d20
     refine zC ?_)
   rotate_right 1
   focus
    intro c20;first|exact dn c20|(
     have d20:=c20;try simp at d20
     refine wa_ (zB (W3 (h:=nE (h:=zA (zF ?_)))))))
 all_goals first|refine zI ?_|refine zX ?_
 all_goals first|refine zK ?_|(
  refine zA ?_;refine wa_ (zB (W3 (h:=nE (h:=zA (zF ?_))))))
 all_goals (refine qX (hr:=(zL rfl zM)) (h:=?_);(focus (simp[zBe];grind)))
def opAt (l:List Nd) (a:Int):Int:=(l[a.toNat]?).elim 0 Nd.op
theorem qAx {t:Bool} {s:Nat} {l:List Nd} {a:Int} (h0:0<=a) (h:a<l.length):∃d,(nds t s l)[a.toNat]? = some (Nd.v t s d)/\opAt l a=Nd.op d:=by
 have:a.toNat<l.length:=by omega
 exact⟨l[a.toNat],by simp[nds,this],by simp[opAt,this]⟩
def okR (pl:List Nd) (i:Nat) (k:Int):Bool:=inI k 0 (IntKind.i64.wrap ((i:Int) - 1))&&!decide (opAt pl k=12)
theorem qFv (pl:List Nd) (out rs:List Int) (d:Nd) (i:Nat) (hp:pl.length<2000000) (hi:i<=pl.length) (hr:rs.length<10):∀j:Nat,j<=rs.length->∀s,zH 1 (some [0,4,5,6,15,16,17,34,35,36]) s=⟨[(0,.lst false 0 (nds false 0 pl)),(4,.ref 1 0 out.length),(5,.int .i64 i),(6,.ptr 2 0 []),(15,.lst false 0 (nds false 0 pl)),(16,.int .i64 pl.length),(17,.int .i64 i),(34,.ref 3 0 rs.length),(35,.int .i64 rs.length),(36,.int .i64 j)],[(1,⟨false,false,1,ints out,0⟩),(2,⟨true,false,7,[d.v false 0],0⟩),(3,⟨false,false,1,ints rs,0⟩)],4⟩ ->
 oc.loop 53 12 s=some (if(rs.drop j).all (okR pl i)=true then(.exit 3,⟨[(0,.lst false 0 (nds false 0 pl)),(4,.ref 1 0 out.length),(6,.ptr 2 0 []),(15,.lst false 0 (nds false 0 pl)),(16,.int .i64 pl.length),(17,.int .i64 i)],[(1,⟨false,false,1,ints out,0⟩),(2,⟨true,false,7,[d.v false 0],0⟩)],3⟩)
  else(.ret,⟨[(0,.lst false 0 (nds false 0 pl)),(2,.lst true 1 []),(3,.int .i64 3),(4,.ref 1 0 out.length),(6,.ptr 2 0 []),(15,.lst false 0 (nds false 0 pl)),(16,.int .i64 pl.length),(17,.int .i64 i)],[(1,⟨false,false,1,ints out,0⟩),(2,⟨true,false,7,[d.v false 0],0⟩)],3⟩)):=by
 refine zV (fun j=>rs.length - j) _ (fun j=>⟨[(0,.lst false 0 (nds false 0 pl)),(4,.ref 1 0 out.length),(5,.int .i64 i),(6,.ptr 2 0 []),(15,.lst false 0 (nds false 0 pl)),(16,.int .i64 pl.length),(17,.int .i64 i),(34,.ref 3 0 rs.length),(35,.int .i64 rs.length),(36,.int .i64 j)],[(1,⟨false,false,1,ints out,0⟩),(2,⟨true,false,7,[d.v false 0],0⟩),(3,⟨false,false,1,ints rs,0⟩)],4⟩) _ ?_;intro j hj ih s hs;have hw2:IntKind.i64.wrap ((i:Int) - 1)=i - 1:=qL (by omega) (by omega);refine qD cd53 rfl rfl hs ?_;refine wa_ (zB (w_ (b_ (h:=nE (h:=zA (wa_ ?_))))));refine c_ (h1:=?_) (h2:=?_)
 rotate_right 1
 focus
  intro c1;first|exact dn c1|(
   have d1:=c1;try simp at d1
   have:j=rs.length:=(by omega);subst this
   refine zW ?_)
 rotate_right 1
 focus
  intro c1;first|exact dn c1|(
   have d1:=c1;try simp at d1
   have hw:=zU (i:=j) (by omega);obtain⟨x,_,e1,g1⟩:=kJ (l:=rs) (i:=j) (by omega);simp at g1;refine zC ?_)
 all_goals first|refine zR ?_|(
  refine zA ?_;refine wa_ (zG (wa_ (zB (w_ (x_ (h:=w_ (l_ (h:=W3 (h:=nE (h:=zA (wa_ (zB (wM (h:=?_))))))))))))));refine wM (h:=w_ (b_ (h:=w_ (ca (hc:=zFp _ _ _) (h:=w_ (u_ (h:=wM (h:=?_))))))));refine gw_ (h1:=?_) (h2:=?_)
  rotate_right 1
  focus
   intro c2;first|exact dn c2|(
    have d2:=c2;try simp at d2
    refine go_ (h:=go_ (h:=go_ (h:=go_ (h:=go_ (h:=go_ (h:=?_)))))))
  rotate_right 1
  focus
   intro c2;first|exact dn c2|(
    have d2:=c2;try simp at d2
    simp[inI,hw2] at d2;obtain⟨h3,h4⟩:=d2;obtain⟨e,g2,g3⟩:=qAx (t:=false) (s:=0) (l:=pl) h3 (by omega);refine g_ (h:=wM (h:=g_ (h:=wM (h:=g_ (h:=w_ (x_ (h:=g_ (h:=w_ (f_ (h:=g_ (h:=w_ (l_ (h:=g_ (h:=w_ (bE (h:=?_)))))))))))))))))
  all_goals
   refine w_ (pk (h:=nE (h:=?_)))
  all_goals first
  | (
   refine zA ?_;refine c_ (h1:=?_) (h2:=?_)
   rotate_right 1
   focus
    intro c3;first|exact dn c3|(
     have d3:=c3;try simp at d3
     refine zC ?_)
   rotate_right 1
   focus
    intro c3;first|exact dn c3|(
     have d3:=c3;try simp at d3
     refine wa_ (zB (w_ (aN (h:=W3 (h:=nE (h:=zA (zF ?_)))))))))
  all_goals first|refine zI ?_|refine zX ?_
  all_goals first|refine zK ?_|(
   refine zA ?_;refine zB (w_ (b_ (h:=wM (h:=nE (h:=?_)))))))
 all_goals first
 | (refine(ih (j+1) (by omega) ?_ _ ?_).trans ?_;(focus (first|omega|(simp;done)|(simp;omega)));(focus (simp[zH,hw];done));(focus (rw[e1];simp[okR] at *;grind)))
 | (apply zP (ex:=Ext.ret) 1 (some [0,2,3,4,6,15,16,17]);(focus (simp[zH];rfl));(focus (rw[e1];simp[okR] at *;grind)))
 | (apply zP (ex:=(Ext.exit 3)) 1 (some [0,2,3,4,6,15,16,17]);(focus (simp[zH];rfl));(focus (simp)))
theorem zUg {pl:List Nd} {d:Nd} {i:Nat} (hi:i<2000000) (h:(qB d).all (okR pl i)=true):qE7 d i:=by
 have hw2:IntKind.i64.wrap ((i:Int) - 1)=i - 1:=qL (by omega) (by omega)
 have key:∀k∈qB d,0<=k/\k<i:=by
  intro k hk
  have:=List.all_eq_true.mp h k hk
  simp[okR,inI,hw2] at this;omega
 unfold qB at key;constructor
 ·intro h1
  rw[if_neg h1] at key;split at key<;>exact key _ (by simp)
 ·intro h1
  rw[if_neg (by omega),if_pos h1] at key;exact key _ (by simp)
theorem zWo (d:Nd):(zB0 d).cells.length<=d.cells.length:=by
 simp only[zB0]
 split<;>simp
def vE (pl:List Nd) (d:Nd) (out:List Int):Int :=
 if inI d.op 1 12=false then 5 else if d≠zB0 d then 1 else if(qB d).all (okR pl out.length)=false then 3 else zBe d out
def jO (pl:List Nd):List Nd->List Int->List Int×Int
 | [],out=>(out,0)
 | d::r,out=>if vE pl d out=0 then jO pl r (out++[kL d out]) else(out,vE pl d out)
def zWm (q:List Int×Int):Ext×St :=
 if q.2=0 then(.exit 0,⟨[(4,.ref 1 0 q.1.length)],[(1,⟨false,false,1,ints q.1,0⟩)],2⟩) else(.ret,⟨[(2,.lst true 1 []),(3,.int .i64 q.2),(4,.ref 1 0 q.1.length)],[(1,⟨false,false,1,ints q.1,0⟩)],2⟩)
theorem zDo {pl r:List Nd} {d:Nd} {out:List Int} {i:Nat} {c:Int} (e:pl.drop i=d::r) (h:vE pl d out=c) (hc:c≠0):zWm (jO pl (pl.drop i) out)=(.ret,⟨[(2,.lst true 1 []),(3,.int .i64 c),(4,.ref 1 0 out.length)],[(1,⟨false,false,1,ints out,0⟩)],2⟩):=by
 subst h;rw[e,jO,if_neg hc,zWm,if_neg hc]
theorem zVo {pl r:List Nd} {d:Nd} {out:List Int} {i:Nat} (e:pl.drop i=d::r) (h:vE pl d out=0):jO pl (pl.drop i) out=jO pl r (out++[kL d out]):=by
 rw[e,jO,if_pos h]
theorem qLl (pl:List Nd) (hp:pl.length<2000000) (hk:okN pl):∀out:List Int,out.length<=pl.length->∀s,zH 1 (some [0,4,15,16,17]) s=⟨[(0,.lst false 0 (nds false 0 pl)),(4,.ref 1 0 out.length),(15,.lst false 0 (nds false 0 pl)),(16,.int .i64 pl.length),(17,.int .i64 out.length)],[(1,⟨false,false,1,ints out,0⟩)],2⟩ ->
 oc.loop 53 5 s=some (zWm (jO pl (pl.drop out.length) out)):=by
 refine zV (fun out=>pl.length - out.length) _ (fun out=>⟨[(0,.lst false 0 (nds false 0 pl)),(4,.ref 1 0 out.length),(15,.lst false 0 (nds false 0 pl)),(16,.int .i64 pl.length),(17,.int .i64 out.length)],[(1,⟨false,false,1,ints out,0⟩)],2⟩) _ ?_;intro out hi ih s hs;refine qD cd53 rfl rfl hs ?_;refine wa_ (zB (w_ (b_ (h:=nE (h:=zA (wa_ ?_))))));refine c_ (h1:=?_) (h2:=?_)
 rotate_right 1
 focus
  intro c1;first|exact dn c1|(
   have d1:=c1;try simp at d1
   have hn:pl.length=out.length:=(by omega);refine zW ?_)
 rotate_right 1
 focus
  intro c1;first|exact dn c1|(
   have d1:=c1;try simp at d1
   have hw:=zU (i:=out.length) (by omega);obtain⟨d,hx,e1,g1⟩:=zJd (t:=false) (s:=0) (l:=pl) (i:=out.length) (by omega);simp at g1;have hd:=hk d (List.mem_of_getElem? hx);by_cases h3:d.op=3
   all_goals
    refine zC ?_)
 all_goals first|refine zR ?_|(
  refine zA ?_;refine wa_ (zG (wa_ (zB (wM (h:=w_ (x_ (h:=w_ (l_ (h:=w_ (al (h:=W3 (h:=w0 (s_ (h:=nE (h:=zA ?_)))))))))))))));refine wa_ (zG (wa_ (zB (w_ (f_ (h:=w_ (l_ (h:=w_ (ca (hc:=zFp _ _ _) (h:=w_ (u_ (h:=W3 (h:=nE (h:=zA ?_))))))))))))));refine c_ (h1:=?_) (h2:=?_)
  rotate_right 1
  focus
   intro c2;first|exact dn c2|(
    have d2:=c2;try simp at d2
    refine wa_ (qE (y_ (l_ (h:=ax_ (h:=y_ (l_ (h:=ax_ (h:=?_))))))))
    first|refine y_ (ca (hc:=zXr 0 d h3) (h:=?_))|refine y_ (ca (hc:=qC0 0 d h3) (h:=?_))
    refine ax_ (h:=y_ (ca (hc:=qMu 0 0 d (zB0 d) (by omega) (by have:=zWo d;omega)) (h:=ax_ (h:=y_ (u_ (h:=ax_ (h:=y_ (a_ (h:=ax_ (h:=qO (ed (h:=zA ?_))))))))))));refine c_ (h1:=?_) (h2:=?_)
    rotate_right 1
    focus
     intro c3;first|exact dn c3|(
      have d3:=c3;try simp at d3
      refine zC ?_)
    rotate_right 1
    focus
     intro c3;first|exact dn c3|(
      have d3:=c3;try simp at d3
      refine wa_ (zB (w_ (aN (h:=W3 (h:=nE (h:=zA (zF ?_)))))))))
  rotate_right 1
  focus
   intro c2;first|exact dn c2|(
    have d2:=c2;try simp at d2
    refine wa_ (zB (w_ (aN (h:=W3 (h:=nE (h:=zA (zF ?_))))))))
  all_goals first|refine zI ?_|refine zX ?_
  all_goals first|refine zK ?_|(
   refine zA ?_;refine wa_ (wa_ (zB (w_ (l_ (h:=w_ (ca (hc:=zNg 0 d) (h:=w_ (le (h:=wM (h:=nE (h:=zA (zG ?_))))))))))));refine qY (qFv pl out (qB d) d out.length (by omega) (by omega) (by unfold qB;split;simp;split<;>simp) 0 (by omega) _ (by simp[zH])) ?_ ?_
   rotate_right 1
   focus
    intro c4;first|exact dn c4|(
     have d4:=c4;try simp at d4
     have d4':(qB d).all (okR pl out.length)=false:=(by simpa using c4)
     skip)
   rotate_right 1
   focus
    intro c4;first|exact dn c4|(
     have d4:=c4;try simp at d4
     have d4':(qB d).all (okR pl out.length)=true:=(by simpa using c4);have hf:=zUg (i:=out.length) (by omega) (by simpa using c4)
     skip)
   all_goals first|refine zX ?_|refine zS ?_
   all_goals first|refine zK ?_|(
    refine zA ?_;refine wa_ (wa_ (zB (w_ (l_ (h:=wM (h:=w_ (ca (hc:=qCw 0 0 d out (by omega) hf (by simp[inI] at d2;omega)) (h:=W3 (h:=nE (h:=zA (wa_ (zB (wM (h:=?_))))))))))))));refine w_ (bE (h:=nE (h:=zA ?_)));refine c_ (h1:=?_) (h2:=?_)
    rotate_right 1
    focus
     intro c5;first|exact dn c5|(
      have d5:=c5;try simp at d5
      refine zC ?_)
    rotate_right 1
    focus
     intro c5;first|exact dn c5|(
      have d5:=c5;try simp at d5
      refine wa_ (zB (wM (h:=w_ (aN (h:=W3 (h:=nE (h:=zA (zF ?_)))))))))
    all_goals first|refine zK ?_|(
     refine zA ?_;refine zB (wM (h:=w_ (l_ (h:=wM (h:=w_ (ca (hc:=zUr 0 0 d out (by omega) hf) (h:=w_ (bs (h:=w_ (ap (h:=W3 (h:=nE (h:=?_))))))))))))))))
  all_goals first|refine zI ?_|refine zX ?_
  all_goals first|refine zK ?_|(
   refine zA ?_;refine zB (w_ (b_ (h:=wM (h:=nE (h:=?_)))))))
 all_goals first
 | (refine(ih (out++[kL d out]) (by simp;omega) ?_ _ ?_).trans ?_;(focus (first|omega|(simp;done)|(simp;omega)));(focus (simp[zH,hw];done));(focus (rw[zVo e1 (by grind [vE])];simp)))
 | (apply zP (ex:=Ext.ret) 1 (some [2,3,4]);(focus (simp[zH];rfl));(focus (exact(zDo e1 (c:=5) (by grind [vE]) (by decide)).symm)))
 | (apply zP (ex:=Ext.ret) 1 (some [2,3,4]);(focus (simp[zH];rfl));(focus (exact(zDo e1 (c:=1) (by grind [vE]) (by decide)).symm)))
 | (apply zP (ex:=Ext.ret) 1 (some [2,3,4]);(focus (simp[zH];rfl));(focus (exact(zDo e1 (c:=3) (by grind [vE]) (by decide)).symm)))
 | (apply zP (ex:=Ext.ret) 1 (some [2,3,4]);(focus (simp[zH];rfl));(focus (exact(zDo e1 (c:=zBe d out) (by grind [vE]) (by omega)).symm)))
 | (apply zP (ex:=(Ext.exit 0)) 1 (some [2,3,4]);(focus (simp[zH];rfl));(focus (rw[List.drop_eq_nil_of_le (by omega)];simp[jO,zWm])))
def yD (pl:List Nd):List Int×Int :=
 if inI pl.length 1 8=false then([],2) else if(jO pl pl []).2=0 then jO pl pl [] else([],(jO pl pl []).2)
theorem zP8 (pl:List Nd) (hp:pl.length<2000000) (hk:okN pl):oc.call 53 [.lst false 0 (nds false 0 pl)]=some (.tup [.lst true 1 (ints (yD pl).1),.int .i64 (yD pl).2],[]):=by
 refine qA rfl cd53 rfl rfl rfl (by simp;rfl) (by simp;rfl) ?_;refine wa_ (zB (w_ (aN (h:=W3 (h:=nE (h:=zA (wa_ (wa_ (zB (wM (h:=w_ (ca (hc:=zJj _ _ (by simp;omega)) (h:=w_ (ca (hc:=zFp _ _ _) (h:=?_)))))))))))))));refine w_ (u_ (h:=nE (h:=zA ?_)));refine c_ (h1:=?_) (h2:=?_)
 rotate_right 1
 focus
  intro c1;refine zC ?_
 rotate_right 1
 focus
  intro c1;refine wa_ (zB (w_ (aN (h:=W3 (h:=nE (h:=zA (zF ?_)))))))
 all_goals first|refine zK ?_|(
  refine zA ?_;refine wa_ (zB (w_ (bs (h:=W3 (h:=nE (h:=zA (wa_ (wa_ (zB (wM (h:=w_ (le (h:=wM (h:=?_))))))))))))));refine nE (h:=zA (zG ?_));refine qY ((qLl pl hp hk [] (by simp) _ (by simp[zH])).trans (by rw[zWm])) ?_ ?_
  rotate_right 1
  focus
   intro c2
   skip
  rotate_right 1
  focus
   intro c2
   skip
  all_goals first|refine zX ?_|refine zS ?_
  all_goals first|refine zK ?_|(
   refine zA ?_;refine wa_ (zB (wM (h:=W3 (h:=W3 (h:=nE (h:=zA (zF ?_)))))))))
 all_goals (refine qX (hr:=(zL rfl (zL rfl zM))) (h:=?_);(focus (simp_all [yD])))
end Go.Proofs.YtbcgenkegnmkhaaGreat.Ev
namespace Go.Proofs.YtbcgenkegnmkhaaGreat.Ev
open Go
set_option maxRecDepth 100000
set_option linter.unusedSimpArgs false
set_option linter.unusedVariables false
set_option maxHeartbeats 2000000
def zX8 (pl:List Nd) (ws:List Int):Prop:=∀n:Nat,n<ws.length->∃d,pl[n]? = some d/\at0 ws n=kL d (ws.take n)/\qE7 d n/\d.cells.length<2000000
theorem zFk {ws:List Int} {n:Nat} {a:Int} (h:a.toNat<n):at0 (ws.take n) a=at0 ws a:=by
 simp only[at0,List.getD_eq_getElem?_getD,List.getElem?_take,if_pos h]
theorem zVh (pl:List Nd) (ws:List Int) (hp:pl.length<2000000) (G:zX8 pl ws):∀n:Nat,n<ws.length->oc.call 41 [.lst false 0 (nds false 0 pl),.int .i64 n]=some (.int .i64 (at0 ws n),[]):=by
  intro n
  induction n using Nat.strongRecOn with
  | ind n ih =>
    intro hn;obtain⟨d,hx,hv,⟨h1,h2⟩,hd⟩:=G n hn
    have hrec:∀a:Int,0<=a->a<n->oc.call 41 [.lst false 0 (nds false 0 pl),.int .i64 a]=some (.int .i64 (at0 (ws.take n) a),[]):=by
      intro a h3 h4
      have:=ih a.toNat (by omega) (by omega)
      rw[zFk (by omega)];rw[Int.toNat_of_nonneg h3] at this;exact this
    have g1:(nds false 0 pl)[(n:Int).toNat]? = some (d.v false 0):=zBb (by simpa using hx);rw[hv];refine qA rfl cd41 rfl rfl rfl (by simp;rfl) (by simp;rfl) ?_;refine wa_ (zB (W3 (h:=nE (h:=zA (wa_ (zB (wM (h:=wM (h:=w_ (x_ (h:=w_ (l_ (h:=w_ (al (h:=?_)))))))))))))));refine w0 (s_ (h:=nE (h:=zA (wa_ (wa_ (zB (w_ (f_ (h:=w_ (l_ (h:=nE (h:=zA (zG (wa_ ?_))))))))))))));refine zB (w_ (bE (h:=W3 (h:=nE (h:=zA ?_)))));refine c_ (h1:=?_) (h2:=?_)
    rotate_right 1
    focus
     intro c1
     first
     | exact dn c1
     | (have d1:=c1;try simp at d1
        refine wa_ (zB (w_ (bE (h:=W3 (h:=nE (h:=zA ?_))))));refine c_ (h1:=?_) (h2:=?_)
        rotate_right 1
        focus
         intro c2
         first
         | exact dn c2
         | (have d2:=c2;try simp at d2
            refine wa_ (zB (w_ (bE (h:=W3 (h:=nE (h:=zA ?_))))));refine c_ (h1:=?_) (h2:=?_)
            rotate_right 1
            focus
             intro c3
             first
             | exact dn c3
             | (have d3:=c3;try simp at d3
                refine wa_ (wa_ (zB (w_ (bE (h:=W3 (h:=nE (h:=zA ?_)))))));refine c_ (h1:=?_) (h2:=?_)
                rotate_right 1
                focus
                 intro c4
                 first
                 | exact dn c4
                 | (have d4:=c4;try simp at d4
                    refine wa_ (zB (w_ (bE (h:=W3 (h:=nE (h:=zA ?_))))));refine c_ (h1:=?_) (h2:=?_)
                    rotate_right 1
                    focus
                     intro c5
                     first
                     | exact dn c5
                     | (have d5:=c5;try simp at d5
                        refine wa_ (zB (w_ (bE (h:=W3 (h:=nE (h:=zA ?_))))));refine c_ (h1:=?_) (h2:=?_)
                        rotate_right 1
                        focus
                         intro c6
                         first
                         | exact dn c6
                         | (have d6:=c6;try simp at d6
                            refine zB (w_ (bE (h:=W3 (h:=nE (h:=?_))))))
                        rotate_right 1
                        focus
                         intro c6
                         first
                         | exact dn c6
                         | (have d6:=c6;try simp at d6
                            refine zC ?_))
                    rotate_right 1
                    focus
                     intro c5
                     first
                     | exact dn c5
                     | (have d5:=c5;try simp at d5
                        refine zC ?_))
                rotate_right 1
                focus
                 intro c4
                 first
                 | exact dn c4
                 | (have d4:=c4;try simp at d4
                    refine zC ?_)
                all_goals first
                | (refine zA ?_
                   refine c_ (h1:=?_) (h2:=?_)
                   rotate_right 1
                   focus
                    intro c7
                    first
                    | exact dn c7
                    | (have d7:=c7;try simp at d7
                       obtain⟨h3,h4⟩:=h1 (by omega);refine zC ?_)
                   rotate_right 1
                   focus
                    intro c7
                    first
                    | exact dn c7
                    | (have d7:=c7;try simp at d7
                       refine wa_ (zB (w_ (f_ (h:=w_ (l_ (h:=w_ (b_ (h:=W3 (h:=nE (h:=zA (zF ?_))))))))))))))
            rotate_right 1
            focus
             intro c3
             first
             | exact dn c3
             | (have d3:=c3;try simp at d3
                obtain⟨h3,h4⟩:=h1 (by omega);obtain⟨h5,h6⟩:=h2 (by omega);refine wa_ (qE (yM (h:=y_ (f_ (h:=ax_ (h:=y_ (l_ (h:=ax_ (h:=y_ (ca (hc:=hrec _ h3 h4) (h:=ax_ (h:=yM (h:=y_ (f_ (h:=ax_ (h:=y_ (l_ (h:=ax_ (h:=y_ (ca (hc:=hrec _ h5 h6) (h:=ax_ (h:=y_ (b_ (h:=ax_ (h:=y_ (f_ (h:=ax_ (h:=?_))))))))))))))))))))))))))));refine y_ (l_ (h:=ax_ (h:=y_ (b_ (h:=ax_ (h:=y_ (a_ (h:=ax_ (h:=qO (ed (h:=zA (zF ?_))))))))))))))
        rotate_right 1
        focus
         intro c2
         first
         | exact dn c2
         | (have d2:=c2;try simp at d2
            refine wa_ (zB (w_ (f_ (h:=w_ (l_ (h:=w_ (le (h:=W3 (h:=nE (h:=zA (zF ?_)))))))))))))
    rotate_right 1
    focus
     intro c1
     first
     | exact dn c1
     | (have d1:=c1;try simp at d1
        refine wa_ (zB (w_ (f_ (h:=w_ (l_ (h:=W3 (h:=nE (h:=zA (zF ?_))))))))))
    all_goals first|refine zI ?_|refine zX ?_
    all_goals first
    | refine zK ?_
    | (refine zA ?_
       refine wa_ (zB (wM (h:=w_ (f_ (h:=w_ (l_ (h:=w_ (ca (hc:=hrec _ h3 h4) (h:=W3 (h:=nE (h:=zA (zF ?_)))))))))))))
    all_goals (refine qX (hr:=(zL rfl zM)) (h:=?_);(focus (clear ih hrec hv G;simp[kL];grind [inI])))
theorem zTp (d:Nd) (hd:d.cells.length<2000000) (ho:1<=d.op/\d.op<=12):oc.call 167 [d.v false 0]=some (.bool (decide (d=zB0 d)),[]):=by
 refine qA rfl cd167 rfl rfl rfl (by simp;rfl) (by simp;rfl) ?_;refine wa_ (zB (w_ (bx (h:=W3 (h:=nE (h:=zA (wa_ (wa_ (zB (w_ (f_ (h:=w_ (l_ (h:=w_ (ca (hc:=zAc _) (h:=?_))))))))))))))));refine w_ (b_ (h:=wM (h:=?_)));refine gw_ (h1:=?_) (h2:=?_)
 rotate_right 1
 focus
  intro c1;first|exact dn c1|(
   have d1:=c1;try simp at d1
   refine go_ (h:=go_ (h:=go_ (h:=?_))))
 rotate_right 1
 focus
  intro c1;first|exact dn c1|(
   have d1:=c1;try simp at d1
   refine g_ (h:=w_ (f_ (h:=g_ (h:=w_ (l_ (h:=g_ (h:=w_ (bE (h:=?_))))))))))
 all_goals
  refine w_ (pk (h:=wM (h:=?_)));refine gw_ (h1:=?_) (h2:=?_)
  rotate_right 1
  focus
   intro c2;first|exact dn c2|(
    have d2:=c2;try simp at d2
    refine go_ (h:=go_ (h:=go_ (h:=go_ (h:=go_ (h:=?_))))))
  rotate_right 1
  focus
   intro c2;first|exact dn c2|(
    have d2:=c2;try simp at d2
    refine g_ (h:=w_ (f_ (h:=g_ (h:=w_ (l_ (h:=g_ (h:=w_ (ca (hc:=zAc _) (h:=g_ (h:=w_ (b_ (h:=g_ (h:=wM (h:=?_)))))))))))))))
  all_goals
   first
   | (
    skip
    refine goN (h:=goN (h:=goN (h:=?_))))
   | (
    refine gw_ (h1:=?_) (h2:=?_)
    rotate_right 1
    focus
     intro c3;first|exact dn c3|(
      have d3:=c3;try simp at d3
      refine go_ (h:=go_ (h:=go_ (h:=?_))))
    rotate_right 1
    focus
     intro c3;first|exact dn c3|(
      have d3:=c3;try simp at d3
      refine g_ (h:=w_ (f_ (h:=g_ (h:=w_ (l_ (h:=g_ (h:=w_ (bE (h:=?_)))))))))))
   all_goals
    first
    | (
     skip
     refine g_ (h:=w_ (pk (h:=?_))))
    | (
     skip
     refine go_ (h:=?_))
    all_goals
     refine w_ (pk (h:=nE (h:=?_)))
 all_goals first
 | (
  refine zA ?_;refine c_ (h1:=?_) (h2:=?_)
  rotate_right 1
  focus
   intro c4;first|exact dn c4|(
    have d4:=c4;try simp at d4
    refine zC ?_)
  rotate_right 1
  focus
   intro c4;first|exact dn c4|(
    have d4:=c4;try simp at d4
    refine wa_ (zB (W3 (h:=nE (h:=zA (zF ?_)))))))
 all_goals first|refine zK ?_|(
  refine zA ?_;refine wa_ (wa_ (zB (w_ (f_ (h:=w_ (l_ (h:=w_ (bE (h:=wM (h:=?_))))))))));refine gw_ (h1:=?_) (h2:=?_)
  rotate_right 1
  focus
   intro c5;first|exact dn c5|(
    have d5:=c5;try simp at d5
    refine go_ (h:=go_ (h:=go_ (h:=go_ (h:=?_)))))
  rotate_right 1
  focus
   intro c5;first|exact dn c5|(
    have d5:=c5;try simp at d5
    refine g_ (h:=w_ (f_ (h:=g_ (h:=w_ (l_ (h:=g_ (h:=w_ (bE (h:=g_ (h:=wM (h:=?_))))))))))))
  all_goals
   first
   | (
    skip
    refine goN (h:=goN (h:=goN (h:=?_))))
   | (
    refine gw_ (h1:=?_) (h2:=?_)
    rotate_right 1
    focus
     intro c6;first|exact dn c6|(
      have d6:=c6;try simp at d6
      refine go_ (h:=go_ (h:=go_ (h:=?_))))
    rotate_right 1
    focus
     intro c6;first|exact dn c6|(
      have d6:=c6;try simp at d6
      refine g_ (h:=w_ (f_ (h:=g_ (h:=w_ (l_ (h:=g_ (h:=w_ (bE (h:=?_)))))))))))
   all_goals
    first
    | (
     skip
     refine g_ (h:=w_ (pk (h:=?_))))
    | (
     skip
     refine go_ (h:=?_))
    all_goals
     refine w_ (pk (h:=wM (h:=?_)));refine gw_ (h1:=?_) (h2:=?_)
     rotate_right 1
     focus
      intro c7;first|exact dn c7|(
       have d7:=c7;try simp at d7
       refine go_ (h:=go_ (h:=go_ (h:=go_ (h:=?_)))))
     rotate_right 1
     focus
      intro c7;first|exact dn c7|(
       have d7:=c7;try simp at d7
       refine g_ (h:=w_ (f_ (h:=g_ (h:=w_ (l_ (h:=g_ (h:=w_ (bE (h:=g_ (h:=wM (h:=?_))))))))))))
     all_goals
      first
      | (
       skip
       refine goN (h:=goN (h:=goN (h:=goN (h:=?_)))))
      | (
       refine gw_ (h1:=?_) (h2:=?_)
       rotate_right 1
       focus
        intro c8;first|exact dn c8|(
         have d8:=c8;try simp at d8
         refine go_ (h:=go_ (h:=go_ (h:=go_ (h:=?_)))))
       rotate_right 1
       focus
        intro c8;first|exact dn c8|(
         have d8:=c8;try simp at d8
         refine g_ (h:=w_ (f_ (h:=g_ (h:=w_ (l_ (h:=g_ (h:=w_ (le (h:=g_ (h:=w_ (b_ (h:=?_))))))))))))))
      all_goals
       first
       | (
        skip
        refine g_ (h:=w_ (pk (h:=?_))))
       | (
        skip
        refine go_ (h:=?_))
       all_goals
        refine w_ (pk (h:=nE (h:=?_)))
  all_goals first
  | (
   refine zA ?_;refine c_ (h1:=?_) (h2:=?_)
   rotate_right 1
   focus
    intro c9;first|exact dn c9|(
     have d9:=c9;try simp at d9
     refine zC ?_)
   rotate_right 1
   focus
    intro c9;first|exact dn c9|(
     have d9:=c9;try simp at d9
     refine wa_ (zB (W3 (h:=nE (h:=zA (zF ?_)))))))
  all_goals first|refine zK ?_|(
   refine zA ?_;refine wa_ (wa_ (zB (w_ (f_ (h:=w_ (l_ (h:=nE (h:=zA (zG (wa_ (wa_ (zB (w_ (bE (h:=?_)))))))))))))));refine W3 (h:=nE (h:=zA ?_));refine c_ (h1:=?_) (h2:=?_)
   rotate_right 1
   focus
    intro c10;first|exact dn c10|(
     have d10:=c10;try simp at d10
     refine wa_ (zB (w_ (bE (h:=W3 (h:=nE (h:=zA ?_))))));refine c_ (h1:=?_) (h2:=?_)
     rotate_right 1
     focus
      intro c11;first|exact dn c11|(
       have d11:=c11;try simp at d11
       refine wa_ (zB (w_ (bE (h:=W3 (h:=nE (h:=zA ?_))))));refine c_ (h1:=?_) (h2:=?_)
       rotate_right 1
       focus
        intro c12;first|exact dn c12|(
         have d12:=c12;try simp at d12
         refine wa_ (zB (w_ (bE (h:=W3 (h:=nE (h:=zA ?_))))));refine c_ (h1:=?_) (h2:=?_)
         rotate_right 1
         focus
          intro c13;first|exact dn c13|(
           have d13:=c13;try simp at d13
           refine zB (w_ (bE (h:=W3 (h:=nE (h:=?_))))))
         rotate_right 1
         focus
          intro c13;first|exact dn c13|(
           have d13:=c13;try simp at d13
           refine zC ?_))
       rotate_right 1
       focus
        intro c12;first|exact dn c12|(
         have d12:=c12;try simp at d12
         refine zC ?_))
     rotate_right 1
     focus
      intro c11;first|exact dn c11|(
       have d11:=c11;try simp at d11
       refine zC ?_))
   rotate_right 1
   focus
    intro c10;first|exact dn c10|(
     have d10:=c10;try simp at d10
     refine zC ?_)
   all_goals first
   | (
    refine zA ?_;refine c_ (h1:=?_) (h2:=?_)
    rotate_right 1
    focus
     intro c14;first|exact dn c14|(
      have d14:=c14;try simp at d14
      refine zC ?_)
    rotate_right 1
    focus
     intro c14;first|exact dn c14|(
      have d14:=c14;try simp at d14
      refine wa_ (zB (w_ (f_ (h:=w_ (l_ (h:=w_ (bE (h:=W3 (h:=nE (h:=zA (zF ?_)))))))))))))
   all_goals first|refine zI ?_|refine zX ?_
   all_goals first|refine zK ?_|(
    refine zA ?_;refine wa_ (zB (W3 (h:=nE (h:=zA (zF ?_))))))))
 all_goals (refine qX (hr:=(zL rfl zM)) (h:=?_);(focus (simp[Nd.eq_iff,zB0];grind)))
theorem zWw (d:Nd):((qB d).length:Int)=if d.op=1 then 0 else if d.op=4\/d.op=6 then 2 else 1:=by
 unfold qB;split
 ·simp
 ·split<;>simp
theorem zXl {d:Nd} {k:Nat} (h:k<(qB d).length):(qB d).drop k=(if k=1 then d.b else d.a)::(qB d).drop (k+1):=by
 rw[List.drop_eq_getElem_cons h]
 congr 1
 unfold qB at h ⊢;split at h
 ·simp at h
 ·split at h
  ·simp at h
   rcases k with _|_|k
   ·simp[*]
   ·simp[*]
   ·omega
  ·simp at h
   subst h;simp[*]
theorem zXo (pl:List Nd) (d:Nd) (i:Nat) (hp:pl.length<2000000) (hi:i<=pl.length):∀k:Nat,k<=(qB d).length->∀s,zH 2 (some [0,1,5,6]) s=⟨[(0,.lst false 0 (nds false 0 pl)),(1,.int .i64 i),(5,.ptr 2 0 []),(6,.int .i64 k)],[(2,⟨true,false,7,[d.v false 0],0⟩)],3⟩ ->
 oc.loop 99 7 s=some (if((qB d).drop k).all (okR pl i)=true then(.exit 0,⟨[(0,.lst false 0 (nds false 0 pl)),(5,.ptr 2 0 [])],[(2,⟨true,false,7,[d.v false 0],0⟩)],3⟩)
  else(.ret,⟨[(0,.lst false 0 (nds false 0 pl)),(4,.int .i64 3),(5,.ptr 2 0 [])],[(2,⟨true,false,7,[d.v false 0],0⟩)],3⟩)):=by
 refine zV (fun k=>(qB d).length - k) _ (fun k=>⟨[(0,.lst false 0 (nds false 0 pl)),(1,.int .i64 i),(5,.ptr 2 0 []),(6,.int .i64 k)],[(2,⟨true,false,7,[d.v false 0],0⟩)],3⟩) _ ?_;intro k hk ih s hs;have hw2:IntKind.i64.wrap ((i:Int) - 1)=i - 1:=qL (by omega) (by omega);have hlen:=zWw d;have hle:(qB d).length<=2:=by unfold qB;split;simp;split<;>simp
 have hw:=zU (i:=k) (by omega);refine qD cd99 rfl rfl hs ?_;refine wa_ (wa_ (zB (wM (h:=w_ (f_ (h:=w_ (l_ (h:=w_ (ca (hc:=zAc _) (h:=w_ (b_ (h:=nE (h:=zA ?_)))))))))))));refine c_ (h1:=?_) (h2:=?_)
 rotate_right 1
 focus
  intro c1;first|exact dn c1|(
   have d1:=c1;try simp at d1
   rw[<-hlen] at d1;have:k=(qB d).length:=(by omega);refine zW ?_)
 rotate_right 1
 focus
  intro c1;first|exact dn c1|(
   have d1:=c1;try simp at d1
   rw[<-hlen] at d1;have e1:=zXl (d:=d) (k:=k) (by omega);refine zC ?_)
 all_goals first|refine zR ?_|(
  refine zA ?_;refine wa_ (zG (wa_ (zB (w_ (f_ (h:=w_ (l_ (h:=W3 (h:=nE (h:=zA (wa_ (wa_ (zB ?_)))))))))))));refine wM (h:=w_ (bE (h:=nE (h:=zA ?_))));refine c_ (h1:=?_) (h2:=?_)
  rotate_right 1
  focus
   intro c2;first|exact dn c2|(
    have d2:=c2;try simp at d2
    refine zC ?_)
  rotate_right 1
  focus
   intro c2;first|exact dn c2|(
    have d2:=c2;try simp at d2
    refine zB (w_ (f_ (h:=w_ (l_ (h:=W3 (h:=nE (h:=?_))))))))
  all_goals first
  | (
   refine zA ?_;refine wa_ (zB (wM (h:=wM (h:=w_ (b_ (h:=w_ (ca (hc:=xW _ _ _) (h:=w_ (u_ (h:=wM (h:=?_)))))))))));refine gw_ (h1:=?_) (h2:=?_)
   rotate_right 1
   focus
    intro c3;first|exact dn c3|(
     have d3:=c3;try simp at d3
     refine go_ (h:=go_ (h:=go_ (h:=go_ (h:=go_ (h:=go_ (h:=?_)))))))
   rotate_right 1
   focus
    intro c3;first|exact dn c3|(
     have d3:=c3;try simp at d3
     simp[inI,hw2] at d3;obtain⟨h3,h4⟩:=d3;obtain⟨e,g2,g3⟩:=qAx (t:=false) (s:=0) (l:=pl) h3 (by omega);refine g_ (h:=wM (h:=g_ (h:=wM (h:=g_ (h:=w_ (x_ (h:=g_ (h:=w_ (f_ (h:=g_ (h:=w_ (l_ (h:=g_ (h:=w_ (bE (h:=?_)))))))))))))))))
   all_goals
    refine w_ (pk (h:=nE (h:=?_)))
   all_goals first
   | (
    refine zA ?_;refine c_ (h1:=?_) (h2:=?_)
    rotate_right 1
    focus
     intro c4;first|exact dn c4|(
      have d4:=c4;try simp at d4
      refine zC ?_)
    rotate_right 1
    focus
     intro c4;first|exact dn c4|(
      have d4:=c4;try simp at d4
      refine wa_ (zB (W3 (h:=nE (h:=zA (zF ?_))))))))
  all_goals first|refine zI ?_|refine zX ?_
  all_goals first|refine zK ?_|(
   refine zA ?_;refine zB (wM (h:=w_ (b_ (h:=W3 (h:=nE (h:=?_))))))))
 all_goals first
 | (refine(ih (k+1) (by omega) ?_ _ ?_).trans ?_;(focus (first|omega|(simp;done)|(simp;omega)));(focus (simp[zH,hw];done));(focus (rw[e1];simp[okR] at *;grind)))
 | (apply zP (ex:=Ext.ret) 2 (some [0,4,5]);(focus (simp[zH];rfl));(focus (rw[e1];simp[okR] at *;grind)))
 | (apply zP (ex:=(Ext.exit 0)) 2 (some [0,4,5]);(focus (simp[zH];rfl));(focus (rw[List.drop_eq_nil_of_le (by omega)];simp)))
theorem zYm (d:Nd) (v:Int) (hd:d.cells.length<2000000):∀i:Nat,i<=d.cells.length->∀s,zH 2 (some [5,8,9]) s=⟨[(5,.ptr 2 0 []),(8,.int .i64 v),(9,.int .i64 i)],[(2,⟨true,false,7,[d.v false 0],0⟩)],3⟩ ->
 oc.loop 99 27 s=some (if((d.cells.drop i).all fun c=>inI c 0 (IntKind.i64.wrap (v - 1)))=true then(.exit 3,⟨[],[],2⟩) else(.ret,⟨[(4,.int .i64 3)],[],2⟩)):=by
 refine zV (fun i=>d.cells.length - i) _ (fun i=>⟨[(5,.ptr 2 0 []),(8,.int .i64 v),(9,.int .i64 i)],[(2,⟨true,false,7,[d.v false 0],0⟩)],3⟩) _ ?_;intro i hi ih s hs;refine qD cd99 rfl rfl hs ?_;refine wa_ (wa_ (zB (wM (h:=w_ (f_ (h:=w_ (l_ (h:=w_ (le (h:=w_ (b_ (h:=nE (h:=zA ?_)))))))))))));refine c_ (h1:=?_) (h2:=?_)
 rotate_right 1
 focus
  intro c1;simp at c1;have:i=d.cells.length:=(by omega);subst this;refine zW ?_
 rotate_right 1
 focus
  intro c1;simp at c1;have hw:=zU (i:=i) (by omega);obtain⟨x,_,d1,g1⟩:=kJ c1;refine zC ?_
 all_goals first|refine zR ?_|(
  refine zA ?_;refine wa_ (zG (wa_ (zB (w_ (f_ (h:=w_ (l_ (h:=wM (h:=w_ (x_ (h:=w_ (l_ (h:=wM (h:=w_ (b_ (h:=w_ (ca (hc:=xW _ _ _) (h:=?_))))))))))))))))));refine w_ (u_ (h:=nE (h:=zA ?_)));refine c_ (h1:=?_) (h2:=?_)
  rotate_right 1
  focus
   intro c2;refine zC ?_
  rotate_right 1
  focus
   intro c2;refine wa_ (zB (W3 (h:=nE (h:=zA (zF ?_)))))
  all_goals first|refine zI ?_|refine zX ?_
  all_goals first|refine zK ?_|(
   refine zA ?_;refine zB (wM (h:=w_ (b_ (h:=W3 (h:=nE (h:=?_))))))))
 all_goals first
 | (refine(ih (i+1) (by omega) ?_ _ ?_).trans ?_;(focus (first|omega|(simp;done)|(simp;omega)));(focus (simp[zH,hw];done));(focus (rw[d1];simp at c2 ⊢;grind)))
 | (apply zP (ex:=Ext.ret) 2 (some [4]);(focus (simp[zH];rfl));(focus (rw[d1];simp at c2 ⊢;grind)))
 | (apply zP (ex:=(Ext.exit 3)) 2 (some [4]);(focus (simp[zH];rfl));(focus (simp)))
theorem xR (pl:List Nd) (ws:List Int) (hp:pl.length<2000000) (G:zX8 pl ws) (a:Int) (h0:0<=a) (h1:a<ws.length):oc.call 41 [.lst false 0 (nds false 0 pl),.int .i64 a]=some (.int .i64 (at0 ws a),[]):=by
 have:=zVh pl ws hp G a.toNat (by omega)
 rwa [Int.toNat_of_nonneg h0] at this
def Hid (p:Prop):Prop:=p
theorem zZ1 (pl:List Nd) (ws:List Int) (d:Nd) (hp:pl.length<2000000) (hk:okN pl) (G:zX8 pl ws) (hx:pl[ws.length]? = some d):oc.call 99 [.lst false 0 (nds false 0 pl),.int .i64 ws.length]=some (.int .i64 (vE pl d ws),[]):=by
 have hd:=hk d (List.mem_of_getElem? hx);have hlt:ws.length<pl.length:=(List.getElem?_eq_some_iff.mp hx).1;have g1:(nds false 0 pl)[(ws.length:Int).toNat]? = some (d.v false 0):=zBb (by simpa using hx);refine qA rfl cd99 rfl rfl rfl (by simp;rfl) (by simp;rfl) ?_;refine wa_ (zB (W3 (h:=nE (h:=zA (wa_ (zB (wM (h:=wM (h:=w_ (x_ (h:=w_ (l_ (h:=w_ (al (h:=?_)))))))))))))));refine w0 (s_ (h:=nE (h:=zA (wa_ (wa_ (zB (w_ (f_ (h:=w_ (l_ (h:=w_ (ca (hc:=xW _ _ _) (h:=w_ (u_ (h:=nE (h:=zA ?_))))))))))))))));refine c_ (h1:=?_) (h2:=?_)
 rotate_right 1
 focus
  intro c1;first|exact dn c1|(
   have d1:=c1;try simp at d1
   refine zC ?_)
 rotate_right 1
 focus
  intro c1;first|exact dn c1|(
   have d1:=c1;try simp at d1
   refine wa_ (zB (W3 (h:=nE (h:=zA (zF ?_))))))
 all_goals first|refine zK ?_|(
  refine zA ?_;refine wa_ (wa_ (zB (w_ (l_ (h:=w_ (ca (hc:=zTp d hd (by simp[inI] at d1;omega)) (h:=w_ (u_ (h:=nE (h:=zA ?_))))))))));refine c_ (h1:=?_) (h2:=?_)
  rotate_right 1
  focus
   intro c2;first|exact dn c2|(
    have d2:=c2;try simp at d2
    have hpl:Hid (d=zB0 d):=d2;clear d2 c2;refine zC ?_)
  rotate_right 1
  focus
   intro c2;first|exact dn c2|(
    have d2:=c2;try simp at d2
    refine wa_ (zB (W3 (h:=nE (h:=zA (zF ?_))))))
  all_goals first|refine zK ?_|(
   refine zA ?_;refine wa_ (wa_ (zB (W3 (h:=nE (h:=zA (zG ?_))))));refine qY (zXo pl d ws.length (by omega) (by omega) 0 (by omega) _ (by simp[zH])) ?_ ?_
   rotate_right 1
   focus
    intro c3;first|exact dn c3|(
     have d3:=c3;try simp at d3
     have d3':(qB d).all (okR pl ws.length)=false:=(by simpa using c3)
     skip)
   rotate_right 1
   focus
    intro c3;first|exact dn c3|(
     have d3:=c3;try simp at d3
     have d3':(qB d).all (okR pl ws.length)=true:=(by simpa using c3);obtain⟨k1,k2⟩:=zUg (i:=ws.length) (by omega) (by simpa using c3)
     skip)
   all_goals first|refine zX ?_|refine zS ?_
   all_goals first|refine zK ?_|(
    refine zA ?_;refine wa_ (wa_ (zB (w_ (f_ (h:=w_ (l_ (h:=w_ (bE (h:=nE (h:=zA ?_))))))))));refine c_ (h1:=?_) (h2:=?_)
    rotate_right 1
    focus
     intro c4;first|exact dn c4|(
      have d4:=c4;try simp at d4
      obtain⟨h3,h4⟩:=k1 (by omega);refine zC ?_)
    rotate_right 1
    focus
     intro c4;first|exact dn c4|(
      have d4:=c4;try simp at d4
      refine wa_ (wa_ (zB (w_ (f_ (h:=w_ (l_ (h:=w_ (ca (hc:=xW _ _ _) (h:=w_ (u_ (h:=nE (h:=zA ?_))))))))))));refine c_ (h1:=?_) (h2:=?_)
      rotate_right 1
      focus
       intro c5;first|exact dn c5|(
        have d5:=c5;try simp at d5
        refine zC ?_)
      rotate_right 1
      focus
       intro c5;first|exact dn c5|(
        have d5:=c5;try simp at d5
        refine wa_ (zB (W3 (h:=nE (h:=zA (zF ?_))))))
      all_goals first|refine zK ?_|(
       refine zA ?_;refine wa_ (zB (W3 (h:=nE (h:=zA (zF ?_)))))))
    all_goals first|refine zK ?_|(
     refine zA ?_;refine wa_ (zB (wM (h:=w_ (f_ (h:=w_ (l_ (h:=w_ (ca (hc:=xR pl ws hp G _ h3 h4) (h:=W3 (h:=nE (h:=zA (wa_ (wa_ (zB ?_))))))))))))));refine w_ (f_ (h:=w_ (l_ (h:=nE (h:=zA (zG (wa_ (zB (w_ (bE (h:=W3 (h:=nE (h:=zA ?_)))))))))))));refine c_ (h1:=?_) (h2:=?_)
     rotate_right 1
     focus
      intro c6;first|exact dn c6|(
       have d6:=c6;try simp at d6
       refine wa_ (zB (w_ (bE (h:=W3 (h:=nE (h:=zA ?_))))));refine c_ (h1:=?_) (h2:=?_)
       rotate_right 1
       focus
        intro c7;first|exact dn c7|(
         have d7:=c7;try simp at d7
         refine wa_ (zB (w_ (bE (h:=W3 (h:=nE (h:=zA ?_))))));refine c_ (h1:=?_) (h2:=?_)
         rotate_right 1
         focus
          intro c8;first|exact dn c8|(
           have d8:=c8;try simp at d8
           refine wa_ (zB (w_ (bE (h:=W3 (h:=nE (h:=zA ?_))))));refine c_ (h1:=?_) (h2:=?_)
           rotate_right 1
           focus
            intro c9;first|exact dn c9|(
             have d9:=c9;try simp at d9
             refine wa_ (zB (w_ (bE (h:=W3 (h:=nE (h:=zA ?_))))));refine c_ (h1:=?_) (h2:=?_)
             rotate_right 1
             focus
              intro c10;first|exact dn c10|(
               have d10:=c10;try simp at d10
               refine wa_ (wa_ (zB (w_ (bE (h:=W3 (h:=nE (h:=zA ?_)))))));refine c_ (h1:=?_) (h2:=?_)
               rotate_right 1
               focus
                intro c11;first|exact dn c11|(
                 have d11:=c11;try simp at d11
                 refine wa_ (zB (w_ (bE (h:=W3 (h:=nE (h:=zA ?_))))));refine c_ (h1:=?_) (h2:=?_)
                 rotate_right 1
                 focus
                  intro c12;first|exact dn c12|(
                   have d12:=c12;try simp at d12
                   refine zB (w_ (bE (h:=W3 (h:=nE (h:=?_))))))
                 rotate_right 1
                 focus
                  intro c12;first|exact dn c12|(
                   have d12:=c12;try simp at d12
                   refine zC ?_))
               rotate_right 1
               focus
                intro c11;first|exact dn c11|(
                 have d11:=c11;try simp at d11
                 refine zC ?_)
               all_goals first
               | (
                refine zA ?_;refine c_ (h1:=?_) (h2:=?_)
                rotate_right 1
                focus
                 intro c13;first|exact dn c13|(
                  have d13:=c13;try simp at d13
                  refine zC ?_)
                rotate_right 1
                focus
                 intro c13;first|exact dn c13|(
                  have d13:=c13;try simp at d13
                  refine wa_ (zB (w_ (f_ (h:=w_ (l_ (h:=wM (h:=w_ (b_ (h:=w_ (ca (hc:=xW _ _ _) (h:=w_ (u_ (h:=nE (h:=zA ?_))))))))))))));refine c_ (h1:=?_) (h2:=?_)
                  rotate_right 1
                  focus
                   intro c14;first|exact dn c14|(
                    have d14:=c14;try simp at d14
                    refine zC ?_)
                  rotate_right 1
                  focus
                   intro c14;first|exact dn c14|(
                    have d14:=c14;try simp at d14
                    refine wa_ (zB (W3 (h:=nE (h:=zA (zF ?_)))))))))
             rotate_right 1
             focus
              intro c10;first|exact dn c10|(
               have d10:=c10;try simp at d10
               refine wa_ (qE (y_ (f_ (h:=ax_ (h:=y_ (l_ (h:=ax_ (h:=yM (h:=y_ (ca (hc:=zVt _ _) (h:=ax_ (h:=y_ (ca (hc:=xW _ _ _) (h:=ax_ (h:=y_ (u_ (h:=ax_ (h:=qO (ed (h:=zA ?_))))))))))))))))))));refine c_ (h1:=?_) (h2:=?_)
               rotate_right 1
               focus
                intro c15;first|exact dn c15|(
                 have d15:=c15;try simp at d15
                 refine zC ?_)
               rotate_right 1
               focus
                intro c15;first|exact dn c15|(
                 have d15:=c15;try simp at d15
                 refine wa_ (zB (W3 (h:=nE (h:=zA (zF ?_))))))))
           rotate_right 1
           focus
            intro c9;first|exact dn c9|(
             have d9:=c9;try simp at d9
             obtain⟨h5,h6⟩:=k2 (by omega);refine wa_ (zB (wM (h:=w_ (f_ (h:=w_ (l_ (h:=w_ (ca (hc:=xR pl ws hp G _ h5 h6) (h:=W3 (h:=nE (h:=zA (wa_ (wa_ (qE ?_))))))))))))));refine y_ (f_ (h:=ax_ (h:=y_ (l_ (h:=ax_ (h:=yM (h:=yM (h:=y_ (ca (hc:=zVt _ _) (h:=ax_ (h:=y_ (ca (hc:=xW _ _ _) (h:=ax_ (h:=y_ (u_ (h:=ax_ (h:=qO (ed (h:=zA ?_)))))))))))))))))));refine c_ (h1:=?_) (h2:=?_)
             rotate_right 1
             focus
              intro c16;first|exact dn c16|(
               have d16:=c16;try simp at d16
               refine zC ?_)
             rotate_right 1
             focus
              intro c16;first|exact dn c16|(
               have d16:=c16;try simp at d16
               refine wa_ (zB (W3 (h:=nE (h:=zA (zF ?_))))))
             all_goals first|refine zK ?_|(
              refine zA ?_;refine wa_ (zB (wM (h:=wM (h:=w_ (b_ (h:=w_ (f_ (h:=w_ (l_ (h:=w_ (b_ (h:=w_ (b_ (h:=nE (h:=zA ?_)))))))))))))));refine c_ (h1:=?_) (h2:=?_)
              rotate_right 1
              focus
               intro c17;first|exact dn c17|(
                have d17:=c17;try simp at d17
                refine zC ?_)
              rotate_right 1
              focus
               intro c17;first|exact dn c17|(
                have d17:=c17;try simp at d17
                refine wa_ (zB (W3 (h:=nE (h:=zA (zF ?_)))))))))
         rotate_right 1
         focus
          intro c8;first|exact dn c8|(
           have d8:=c8;try simp at d8
           obtain⟨h5,h6⟩:=k2 (by omega);refine wa_ (zB (wM (h:=wM (h:=w_ (f_ (h:=w_ (l_ (h:=w_ (ca (hc:=xR pl ws hp G _ h5 h6) (h:=w_ (bE (h:=nE (h:=zA ?_)))))))))))));refine c_ (h1:=?_) (h2:=?_)
           rotate_right 1
           focus
            intro c18;first|exact dn c18|(
             have d18:=c18;try simp at d18
             refine zC ?_)
           rotate_right 1
           focus
            intro c18;first|exact dn c18|(
             have d18:=c18;try simp at d18
             refine wa_ (zB (W3 (h:=nE (h:=zA (zF ?_))))))))
       rotate_right 1
       focus
        intro c7;first|exact dn c7|(
         have d7:=c7;try simp at d7
         refine wa_ (wa_ (zB (w_ (f_ (h:=w_ (l_ (h:=w_ (le (h:=w_ (b_ (h:=wM (h:=?_))))))))))));refine gw_ (h1:=?_) (h2:=?_)
         rotate_right 1
         focus
          intro c19;first|exact dn c19|(
           have d19:=c19;try simp at d19
           refine go_ (h:=go_ (h:=go_ (h:=go_ (h:=?_)))))
         rotate_right 1
         focus
          intro c19;first|exact dn c19|(
           have d19:=c19;try simp at d19
           refine g_ (h:=w_ (f_ (h:=g_ (h:=w_ (l_ (h:=g_ (h:=w_ (le (h:=g_ (h:=w_ (b_ (h:=?_)))))))))))))
         all_goals
          refine w_ (pk (h:=nE (h:=?_)))
         all_goals first
         | (
          refine zA ?_;refine c_ (h1:=?_) (h2:=?_)
          rotate_right 1
          focus
           intro c20;first|exact dn c20|(
            have d20:=c20;try simp at d20
            refine zC ?_)
          rotate_right 1
          focus
           intro c20;first|exact dn c20|(
            have d20:=c20;try simp at d20
            refine wa_ (zB (W3 (h:=nE (h:=zA (zF ?_)))))))
         all_goals first|refine zK ?_|(
          refine zA ?_;refine wa_ (zB (W3 (h:=nE (h:=zA (zG ?_)))));refine qY (zYm d (at0 ws d.a) hd 0 (by omega) _ (by simp[zH])) ?_ ?_
          rotate_right 1
          focus
           intro c21;first|exact dn c21|(
            have d21:=c21;try simp at d21
            skip)
          rotate_right 1
          focus
           intro c21;first|exact dn c21|(
            have d21:=c21;try simp at d21
            skip)
          all_goals first|refine zX ?_|refine zS ?_)))
     rotate_right 1
     focus
      intro c6;first|exact dn c6|(
       have d6:=c6;try simp at d6
       refine wa_ (zB (w_ (f_ (h:=w_ (l_ (h:=wM (h:=w_ (b_ (h:=w_ (ca (hc:=xW _ _ _) (h:=w_ (u_ (h:=wM (h:=?_))))))))))))));refine gw_ (h1:=?_) (h2:=?_)
       rotate_right 1
       focus
        intro c22;first|exact dn c22|(
         have d22:=c22;try simp at d22
         refine go_ (h:=go_ (h:=go_ (h:=go_ (h:=?_)))))
       rotate_right 1
       focus
        intro c22;first|exact dn c22|(
         have d22:=c22;try simp at d22
         refine g_ (h:=w_ (f_ (h:=g_ (h:=w_ (l_ (h:=g_ (h:=w_ (ca (hc:=xW _ _ _) (h:=g_ (h:=w_ (u_ (h:=?_)))))))))))))
       all_goals
        refine w_ (pk (h:=wM (h:=?_)));refine gw_ (h1:=?_) (h2:=?_)
        rotate_right 1
        focus
         intro c23;first|exact dn c23|(
          have d23:=c23;try simp at d23
          refine go_ (h:=go_ (h:=go_ (h:=go_ (h:=?_)))))
        rotate_right 1
        focus
         intro c23;first|exact dn c23|(
          have d23:=c23;try simp at d23
          refine g_ (h:=w_ (f_ (h:=g_ (h:=w_ (l_ (h:=g_ (h:=w_ (ca (hc:=xW _ _ _) (h:=g_ (h:=w_ (u_ (h:=?_)))))))))))))
        all_goals
         refine w_ (pk (h:=nE (h:=?_)))
       all_goals first
       | (
        refine zA ?_;refine c_ (h1:=?_) (h2:=?_)
        rotate_right 1
        focus
         intro c24;first|exact dn c24|(
          have d24:=c24;try simp at d24
          refine zC ?_)
        rotate_right 1
        focus
         intro c24;first|exact dn c24|(
          have d24:=c24;try simp at d24
          refine wa_ (zB (W3 (h:=nE (h:=zA (zF ?_))))))))
     all_goals first|refine zI ?_|refine zX ?_
     all_goals first|refine zK ?_|(
      refine zA ?_;refine wa_ (zB (W3 (h:=nE (h:=zA (zF ?_))))))))))
 all_goals (refine qX (hr:=(zL rfl zM)) (h:=?_);(focus (clear hk G;simp only[Hid] at *;simp[vE,zBe,kL];grind [inI])))
theorem zPm (pl:List Nd):zX8 pl []:=fun n h=>by simp at h
theorem zNr {pl:List Nd} {d:Nd} {out:List Int} (hl:out.length<2000000) (h:vE pl d out=0):qE7 d out.length:=by
 unfold vE at h;split at h
 ·cases h
 ·split at h
  ·cases h
  ·split at h
   ·cases h
   ·rename_i h1 h2 h3
    exact zUg hl (by simpa using h3)
theorem zL9 {pl:List Nd} {d:Nd} {ws:List Int} (hk:okN pl) (hl:ws.length<2000000) (G:zX8 pl ws) (hx:pl[ws.length]? = some d) (h:vE pl d ws=0):zX8 pl (ws++[kL d ws]):=by
 intro n hn
 by_cases hlt:n<ws.length
 ·obtain⟨e,h1,h2,h3⟩:=G n hlt
  refine⟨e,h1,?_,h3⟩;rw[List.take_append_of_le_length (by omega),<- h2];simp only[at0,List.getD_eq_getElem?_getD];rw[List.getElem?_append_left (by omega)]
 ·have:n=ws.length:=by simp at hn;omega
  subst this;refine⟨d,hx,?_,zNr hl h,hk d (List.mem_of_getElem? hx)⟩;rw[List.take_left];simp[at0,List.getD_eq_getElem?_getD]
theorem qFt (pl:List Nd) (hp:pl.length<2000000) (hk:okN pl):∀ws:List Int,(zX8 pl ws/\ws.length<=pl.length)->∀s,zH 1 (some [0,3]) s=⟨[(0,.lst false 0 (nds false 0 pl)),(3,.int .i64 ws.length)],[],1⟩ ->
 oc.loop 35 4 s=some (if(jO pl (pl.drop ws.length) ws).2=0 then(.exit 0,⟨[],[],1⟩) else(.ret,⟨[(2,.int .i64 (jO pl (pl.drop ws.length) ws).2)],[],1⟩)):=by
 refine zV (σ:=List Int) (fun ws=>pl.length - ws.length) _ (fun ws=>⟨[(0,.lst false 0 (nds false 0 pl)),(3,.int .i64 ws.length)],[],1⟩) _ ?_;rintro ws ⟨G,hi⟩ ih s hs;refine qD cd35 rfl rfl hs ?_;refine wa_ (wa_ (zB (wM (h:=wM (h:=w_ (le (h:=w_ (b_ (h:=nE (h:=zA ?_))))))))));refine c_ (h1:=?_) (h2:=?_)
 rotate_right 1
 focus
  intro c1;first|exact dn c1|(
   have d1:=c1;try simp at d1
   refine zW ?_)
 rotate_right 1
 focus
  intro c1;first|exact dn c1|(
   have d1:=c1;try simp at d1
   have hw:=zU (i:=ws.length) (by omega);obtain⟨d,hx,e1,g1⟩:=zJd (t:=false) (s:=0) (l:=pl) (i:=ws.length) (by omega);refine zC ?_)
 all_goals first|refine zR ?_|(
  refine zA ?_;refine wa_ (zG (wa_ (zB (wM (h:=wM (h:=w_ (ca (hc:=zZ1 pl ws d hp hk G hx) (h:=W3 (h:=nE (h:=zA (wa_ (zB ?_))))))))))));refine wM (h:=w_ (bE (h:=nE (h:=zA ?_))));refine c_ (h1:=?_) (h2:=?_)
  rotate_right 1
  focus
   intro c2;first|exact dn c2|(
    have d2:=c2;try simp at d2
    refine zC ?_)
  rotate_right 1
  focus
   intro c2;first|exact dn c2|(
    have d2:=c2;try simp at d2
    refine wa_ (zB (wM (h:=W3 (h:=nE (h:=zA (zF ?_)))))))
  all_goals first|refine zI ?_|refine zX ?_
  all_goals first|refine zK ?_|(
   refine zA ?_;refine zB (wM (h:=w_ (b_ (h:=W3 (h:=nE (h:=?_))))))))
 all_goals first
 | (refine(ih (ws++[kL d ws]) (⟨zL9 hk (by omega) G hx d2,by simp;omega⟩) ?_ _ ?_).trans ?_;(focus (first|omega|(simp;done)|(simp;omega)));(focus (simp[zH,hw];done));(focus (rw[zVo e1 d2];simp)))
 | (apply zP (ex:=Ext.ret) 1 (some [2]);(focus (simp[zH];rfl));(focus (rw[e1,jO,if_neg d2];simp[d2])))
 | (apply zP (ex:=(Ext.exit 0)) 1 (some [2]);(focus (simp[zH];rfl));(focus (rw[List.drop_eq_nil_of_le (by omega)];simp[jO])))
theorem zOp (pl:List Nd) (hp:pl.length<2000000) (hk:okN pl):oc.call 35 [.lst false 0 (nds false 0 pl)]=some (.int .i64 (yD pl).2,[]):=by
 refine qA rfl cd35 rfl rfl rfl (by simp;rfl) (by simp;rfl) ?_;refine wa_ (zB (W3 (h:=nE (h:=zA (wa_ (wa_ (zB (wM (h:=w_ (le (h:=w_ (b_ (h:=wM (h:=?_))))))))))))));refine gw_ (h1:=?_) (h2:=?_)
 rotate_right 1
 focus
  intro c1;first|exact dn c1|(
   have d1:=c1;try simp at d1
   refine go_ (h:=go_ (h:=go_ (h:=?_))))
 rotate_right 1
 focus
  intro c1;first|exact dn c1|(
   have d1:=c1;try simp at d1
   refine g_ (h:=wM (h:=g_ (h:=w_ (le (h:=g_ (h:=w_ (b_ (h:=?_)))))))))
 all_goals
  refine w_ (pk (h:=nE (h:=?_)))
 all_goals first
 | (
  refine zA ?_;refine c_ (h1:=?_) (h2:=?_)
  rotate_right 1
  focus
   intro c2;first|exact dn c2|(
    have d2:=c2;try simp at d2
    refine zC ?_)
  rotate_right 1
  focus
   intro c2;first|exact dn c2|(
    have d2:=c2;try simp at d2
    refine wa_ (zB (W3 (h:=nE (h:=zA (zF ?_)))))))
 all_goals first|refine zK ?_|(
  refine zA ?_;refine wa_ (wa_ (zB (W3 (h:=nE (h:=zA (zG ?_))))));refine qY (qFt pl hp hk [] ⟨zPm pl,by simp⟩ _ (by simp[zH])) ?_ ?_
  rotate_right 1
  focus
   intro c3;first|exact dn c3|(
    have d3:=c3;try simp at d3
    skip)
  rotate_right 1
  focus
   intro c3;first|exact dn c3|(
    have d3:=c3;try simp at d3
    skip)
  all_goals first|refine zX ?_|refine zS ?_
  all_goals first|refine zK ?_|(
   refine zA ?_;refine wa_ (zB (W3 (h:=nE (h:=zA (zF ?_)))))))
 all_goals (refine qX (hr:=(zL rfl zM)) (h:=?_);(focus (clear hk;first|(simp_all [yD,inI];done)|(simp_all [yD,inI]<;>grind))))
end Go.Proofs.YtbcgenkegnmkhaaGreat.Ev
namespace Go.Proofs.YtbcgenkegnmkhaaGreat.Ev
open Go
set_option maxRecDepth 100000
set_option linter.unusedSimpArgs false
set_option linter.unusedVariables false
set_option maxHeartbeats 2000000
def kZ (d:Nd) (a:Int):Bool:=(qB d).contains a
theorem zY6 (d:Nd) (a:Int) (hd:d.cells.length<2000000):oc.call 175 [d.v false 0,.int .i64 a]=some (.bool (kZ d a),[]):=by
 refine qA rfl cd175 rfl rfl rfl (by simp;rfl) (by simp;rfl) ?_;refine wa_ (zB (w_ (bx (h:=W3 (h:=nE (h:=zA (wa_ (zB (w_ (f_ (h:=w_ (l_ (h:=w_ (ca (hc:=zAc _) (h:=w_ (b_ (h:=?_)))))))))))))))));refine wM (h:=?_);refine gw_ (h1:=?_) (h2:=?_)
 rotate_right 1
 focus
  intro c1;first|exact dn c1|(
   have d1:=c1;try simp at d1
   refine go_ (h:=go_ (h:=go_ (h:=go_ (h:=?_)))))
 rotate_right 1
 focus
  intro c1;first|exact dn c1|(
   have d1:=c1;try simp at d1
   refine g_ (h:=w_ (f_ (h:=g_ (h:=w_ (l_ (h:=g_ (h:=wM (h:=g_ (h:=w_ (bE (h:=?_))))))))))))
 all_goals
  refine w_ (pk (h:=wM (h:=?_)));refine gw_ (h1:=?_) (h2:=?_)
  rotate_right 1
  focus
   intro c2;first|exact dn c2|(
    have d2:=c2;try simp at d2
    refine go_ (h:=go_ (h:=go_ (h:=go_ (h:=go_ (h:=?_))))))
  rotate_right 1
  focus
   intro c2;first|exact dn c2|(
    have d2:=c2;try simp at d2
    refine g_ (h:=w_ (f_ (h:=g_ (h:=w_ (l_ (h:=g_ (h:=w_ (ca (hc:=zAc _) (h:=g_ (h:=w_ (b_ (h:=g_ (h:=wM (h:=?_)))))))))))))))
  all_goals
   first
   | (
    skip
    refine goN (h:=goN (h:=goN (h:=goN (h:=?_)))))
   | (
    refine gw_ (h1:=?_) (h2:=?_)
    rotate_right 1
    focus
     intro c3;first|exact dn c3|(
      have d3:=c3;try simp at d3
      refine go_ (h:=go_ (h:=go_ (h:=go_ (h:=?_)))))
    rotate_right 1
    focus
     intro c3;first|exact dn c3|(
      have d3:=c3;try simp at d3
      refine g_ (h:=w_ (f_ (h:=g_ (h:=w_ (l_ (h:=g_ (h:=wM (h:=g_ (h:=w_ (bE (h:=?_)))))))))))))
   all_goals
    first
    | (
     skip
     refine g_ (h:=w_ (pk (h:=?_))))
    | (
     skip
     refine go_ (h:=?_))
    all_goals
     refine w_ (pk (h:=W3 (h:=nE (h:=?_))))
 all_goals first
 | (
  refine zA ?_;refine zF ?_)
 all_goals (refine qX (hr:=(zL rfl zM)) (h:=?_);(focus (simp[kZ,qB];grind)))
def qJ (a:Int) (i:Nat):List Nd->List Int
 | []=>[]
 | d::r=>if kZ d a=true then(i:Int)::qJ a (i+1) r else qJ a (i+1) r
theorem zS9 (pl:List Nd) (a:Int) (hp:pl.length<2000000) (hk:okN pl):∀x:Nat×List Int,(x.1<=pl.length/\x.2.length<=x.1)->∀s,zH 2 (some [0,1,5,6]) s=⟨[(0,.lst false 0 (nds false 0 pl)),(1,.int .i64 a),(5,.ref 2 0 x.2.length),(6,.int .i64 x.1)],[(2,⟨false,false,1,ints x.2,0⟩)],3⟩ ->
 oc.loop 107 3 s=some (.exit 0,⟨[(5,.ref 2 0 (x.2++qJ a x.1 (pl.drop x.1)).length)],[(2,⟨false,false,1,ints (x.2++qJ a x.1 (pl.drop x.1)),0⟩)],3⟩):=by
 refine zV (σ:=Nat×List Int) (fun x=>pl.length - x.1) _ (fun x=>⟨[(0,.lst false 0 (nds false 0 pl)),(1,.int .i64 a),(5,.ref 2 0 x.2.length),(6,.int .i64 x.1)],[(2,⟨false,false,1,ints x.2,0⟩)],3⟩) _ ?_;rintro⟨i,out⟩ ⟨hi,ho⟩ ih s hs;simp only at hi ho;refine qD qNd rfl rfl hs ?_;refine wa_ (wa_ (zB (wM (h:=wM (h:=w_ (le (h:=w_ (b_ (h:=nE (h:=zA ?_))))))))));refine c_ (h1:=?_) (h2:=?_)
 rotate_right 1
 focus
  intro c1;first|exact dn c1|(
   have d1:=c1;try simp at d1
   refine zW ?_)
 rotate_right 1
 focus
  intro c1;first|exact dn c1|(
   have d1:=c1;try simp at d1
   have hw:=zU (i:=i) (by omega);obtain⟨d,hx,e1,g1⟩:=zJd (t:=false) (s:=0) (l:=pl) (i:=i) (by omega);have hd:=hk d (List.mem_of_getElem? hx);refine zC ?_)
 all_goals first|refine zR ?_|(
  refine zA ?_;refine wa_ (zG (wa_ (zB (wM (h:=wM (h:=w_ (x_ (h:=w_ (l_ (h:=wM (h:=w_ (ca (hc:=zY6 d a hd) (h:=nE (h:=zA ?_))))))))))))));refine c_ (h1:=?_) (h2:=?_)
  rotate_right 1
  focus
   intro c2;first|exact dn c2|(
    have d2:=c2;try simp at d2
    refine zC ?_)
  rotate_right 1
  focus
   intro c2;first|exact dn c2|(
    have d2:=c2;try simp at d2
    refine zB (wM (h:=wM (h:=w_ (bs (h:=w_ (ap (h:=W3 (h:=nE (h:=?_))))))))))
  all_goals refine zI ?_
  all_goals first
  | (
   refine zA ?_;refine zB (wM (h:=w_ (b_ (h:=W3 (h:=nE (h:=?_))))))))
 all_goals first
 | (refine(ih ((i+1,out++[(i:Int)])) (⟨by simp;omega,by simp;omega⟩) ?_ _ ?_).trans ?_;(focus (first|omega|(simp;done)|(simp;omega)));(focus (simp[zH,hw];done));(focus (simp only[e1,qJ,d2,if_true];simp)))
 | (refine(ih ((i+1,out)) (⟨by simp;omega,by simp;omega⟩) ?_ _ ?_).trans ?_;(focus (first|omega|(simp;done)|(simp;omega)));(focus (simp[zH,hw];done));(focus (simp only[e1,qJ,d2];simp)))
 | (apply zP (ex:=(Ext.exit 0)) 2 (some [5]);(focus (simp[zH];rfl));(focus (simp only[List.drop_eq_nil_of_le (show pl.length<=i by omega),qJ];simp)))
theorem zRq (pl:List Nd) (a:Int) (hp:pl.length<2000000) (hk:okN pl):oc.call 107 [.lst false 0 (nds false 0 pl),.int .i64 a]=some (.lst true 1 (ints (qJ a 0 pl)),[]):=by
 refine qA rfl qNd rfl rfl rfl (by simp;rfl) (by simp;rfl) ?_;refine wa_ (zB (w_ (aN (h:=nE (h:=zA (wa_ (zB (w_ (bs (h:=W3 (h:=nE (h:=zA (wa_ ?_)))))))))))));refine wa_ (zB (W3 (h:=nE (h:=zA (zG ?_)))));refine qH (zS9 pl a hp hk (0,[]) (by simp) _ (by simp[zH])) ?_;refine zS (zA (wa_ (zB (wM (h:=W3 (h:=nE (h:=zA (zF ?_))))))))
 all_goals (refine qX (hr:=(zL rfl zM)) (h:=?_);(focus (first|(simp_all;done)|(simp_all<;>omega)|(simp_all<;>split<;>simp_all<;>omega))))
def isPl (pl:List Nd) (a:Int):Bool:=inI a 0 (2 * (pl.length:Int) - 1)
theorem zWu (pl:List Nd) (a:Int) (hp:pl.length<2000000):oc.call 224 [.lst false 0 (nds false 0 pl),.int .i64 a]=some (.bool (isPl pl a),[]):=by
 refine qA rfl cd224 rfl rfl rfl (by simp;rfl) (by simp;rfl) ?_;have h1:IntKind.i64.wrap (2 * (pl.length:Int))=2 * pl.length:=qL (by omega) (by omega);have h2:IntKind.i64.wrap (2 * (pl.length:Int) - 1)=2 * pl.length - 1:=qL (by omega) (by omega);refine wa_ (zB (W3 (h:=nE (h:=zA (wa_ (zB (wM (h:=wM (h:=w_ (ca (hc:=zJj _ _ (by simp;omega)) (h:=w_ (b_ (h:=w_ (b_ (h:=?_)))))))))))))));refine w_ (ca (hc:=zFp _ _ _) (h:=W3 (h:=nE (h:=zA (zF ?_)))))
 all_goals (refine qX (hr:=(zL rfl zM)) (h:=?_);(focus (simp[isPl,h1,h2])))
def zWq (v:Int) (i:Nat):List Int->Int
 | []=>-1
 | x::r=>if v=x then i else zWq v (i+1) r
theorem zQa {v:Int}:∀{l:List Int} {i:Nat},0<=zWq v i l↔v∈l
 | [],i=>by simp[zWq]
 | x::r,i=>by
  unfold zWq
  by_cases h:v=x
  ·simp[h]
  ·simp[h,zQa (l:=r) (i:=i+1)]
theorem qEj (l:List Int) (v:Int) (hl:l.length<2000000):∀i:Nat,i<=l.length->∀s,zH 2 (some [0,1,7,8]) s=⟨[(0,.lst false 0 (ints l)),(1,.int .i64 v),(7,.int .i64 l.length),(8,.int .i64 i)],[],2⟩ ->
 oc.loop 178 2 s=some (if 0<=zWq v i (l.drop i) then(.ret,⟨[(4,.int .i64 (zWq v i (l.drop i)))],[],2⟩) else(.exit 0,⟨[],[],2⟩)):=by
 refine zV (fun i=>l.length - i) _ (fun i=>⟨[(0,.lst false 0 (ints l)),(1,.int .i64 v),(7,.int .i64 l.length),(8,.int .i64 i)],[],2⟩) _ ?_;intro i hi ih s hs;refine qD qJb rfl rfl hs ?_;refine wa_ (zB (w_ (b_ (h:=nE (h:=zA (wa_ ?_))))));refine c_ (h1:=?_) (h2:=?_)
 rotate_right 1
 focus
  intro c1;first|exact dn c1|(
   have d1:=c1;try simp at d1
   refine zW ?_)
 rotate_right 1
 focus
  intro c1;first|exact dn c1|(
   have d1:=c1;try simp at d1
   have hw:=zU (i:=i) (by omega);obtain⟨x,hx,e1,g1⟩:=kJ (l:=l) (i:=i) (by omega);refine zC ?_)
 all_goals first|refine zR ?_|(
  refine zA ?_;refine wa_ (zG (wa_ (zB (wM (h:=W3 (h:=nE (h:=zA (wa_ (zB (wM (h:=wM (h:=?_))))))))))));refine wM (h:=w_ (x_ (h:=w_ (l_ (h:=w_ (bE (h:=nE (h:=zA ?_))))))));refine c_ (h1:=?_) (h2:=?_)
  rotate_right 1
  focus
   intro c2;first|exact dn c2|(
    have d2:=c2;try simp at d2
    refine zC ?_)
  rotate_right 1
  focus
   intro c2;first|exact dn c2|(
    have d2:=c2;try simp at d2
    refine wa_ (zB (wM (h:=W3 (h:=nE (h:=zA (zF ?_)))))))
  all_goals first|refine zI ?_|refine zX ?_
  all_goals first|refine zK ?_|(
   refine zA ?_;refine zB (w_ (b_ (h:=wM (h:=nE (h:=?_)))))))
 all_goals first
 | (refine(ih (i+1) (by omega) ?_ _ ?_).trans ?_;(focus (first|omega|(simp;done)|(simp;omega)));(focus (simp[zH,hw];done));(focus (rw[e1];simp only[zWq,if_neg d2])))
 | (apply zP (ex:=Ext.ret) 2 (some [4]);(focus (simp[zH];rfl));(focus (rw[e1];simp[zWq,d2])))
 | (apply zP (ex:=(Ext.exit 0)) 2 (some [4]);(focus (simp[zH];rfl));(focus (rw[List.drop_eq_nil_of_le (by omega)];simp[zWq])))
theorem qCg (l:List Int) (v:Int) (hl:l.length<2000000):oc.call 178 [.lst false 0 (ints l),.int .i64 v]=some (.int .i64 (if 0<=zWq v 0 l then zWq v 0 l else -1),[]):=by
 refine qA rfl qJb rfl rfl rfl (by simp;rfl) (by simp;rfl) ?_;refine wa_ (zB (W3 (h:=nE (h:=zA (wa_ (wa_ (zB (wM (h:=w_ (le (h:=wM (h:=nE (h:=?_)))))))))))));refine zA (zG ?_);refine qY (qEj l v hl 0 (by omega) _ (by simp[zH])) ?_ ?_
 rotate_right 1
 focus
  intro c1
  skip
 rotate_right 1
 focus
  intro c1
  skip
 all_goals first|refine zX ?_|refine zS ?_
 all_goals first|refine zK ?_|(
  refine zA ?_;refine wa_ (zB (W3 (h:=nE (h:=zA (zF ?_))))))
 all_goals (refine qX (hr:=(zL rfl zM)) (h:=?_);(focus (first|(simp_all;done)|(simp_all<;>omega)|(simp_all<;>split<;>simp_all<;>omega))))
theorem zRm (l:List Int) (v:Int) (hl:l.length<2000000):oc.call 111 [.lst false 0 (ints l),.int .i64 v]=some (.bool (l.contains v),[]):=by
 refine qA rfl cd111 rfl rfl rfl (by simp;rfl) (by simp;rfl) ?_;refine wa_ (zB (W3 (h:=nE (h:=zA (wa_ (zB (wM (h:=wM (h:=w_ (ca (hc:=qCg _ _ hl) (h:=w_ (b_ (h:=W3 (h:=?_))))))))))))));refine nE (h:=zA (zF ?_))
 all_goals (refine qX (hr:=(zL rfl zM)) (h:=?_);(focus (simp;have:=zQa (v:=v) (l:=l) (i:=0);grind)))
end Go.Proofs.YtbcgenkegnmkhaaGreat.Ev
namespace Go.Proofs.YtbcgenkegnmkhaaGreat.Ev
open Go
set_option maxRecDepth 100000
set_option linter.unusedSimpArgs false
set_option linter.unusedVariables false
set_option maxHeartbeats 2000000
theorem zSn (pl:List Nd) (a:Int) (hp:pl.length<2000000) (hk:okN pl):∀x:Nat×List Int,(x.1<=pl.length/\x.2.length<=x.1)->∀s,zH 2 (some [1,5,9,10,11]) s=⟨[(1,.int .i64 a),(5,.ref 2 0 x.2.length),(9,.lst false 0 (nds false 0 pl)),(10,.int .i64 pl.length),(11,.int .i64 x.1)],[(2,⟨false,false,1,ints x.2,0⟩)],3⟩ ->
 oc.loop 52 3 s=some (.exit 0,⟨[(5,.ref 2 0 (x.2++qJ a x.1 (pl.drop x.1)).length)],[(2,⟨false,false,1,ints (x.2++qJ a x.1 (pl.drop x.1)),0⟩)],3⟩):=by
 refine zV (σ:=Nat×List Int) (fun x=>pl.length - x.1) _ (fun x=>⟨[(1,.int .i64 a),(5,.ref 2 0 x.2.length),(9,.lst false 0 (nds false 0 pl)),(10,.int .i64 pl.length),(11,.int .i64 x.1)],[(2,⟨false,false,1,ints x.2,0⟩)],3⟩) _ ?_;rintro⟨i,out⟩ ⟨hi,ho⟩ ih s hs;simp only at hi ho;refine qD cd52 rfl rfl hs ?_;refine wa_ (zB (w_ (b_ (h:=nE (h:=zA (wa_ ?_))))));refine c_ (h1:=?_) (h2:=?_)
 rotate_right 1
 focus
  intro c1;first|exact dn c1|(
   have d1:=c1;try simp at d1
   refine zW ?_)
 rotate_right 1
 focus
  intro c1;first|exact dn c1|(
   have d1:=c1;try simp at d1
   have hw:=zU (i:=i) (by omega);obtain⟨d,hx,e1,g1⟩:=zJd (t:=false) (s:=0) (l:=pl) (i:=i) (by omega);have hd:=hk d (List.mem_of_getElem? hx);have hle:(qB d).length<2000000:=(by have:(qB d).length<=2:=(by unfold qB;split;simp;split<;>simp);omega);refine zC ?_)
 all_goals first|refine zR ?_|(
  refine zA ?_;refine wa_ (zG (wa_ (zB (wM (h:=w_ (x_ (h:=w_ (l_ (h:=w_ (al (h:=W3 (h:=w0 (s_ (h:=nE (h:=zA ?_)))))))))))))));refine wa_ (zB (w_ (l_ (h:=w_ (ca (hc:=zNg 0 d) (h:=wM (h:=w_ (ca (hc:=zRm (qB d) a hle) (h:=nE (h:=zA ?_))))))))));refine c_ (h1:=?_) (h2:=?_)
  rotate_right 1
  focus
   intro c2;first|exact dn c2|(
    have d2:=c2;try simp at d2
    refine zC ?_)
  rotate_right 1
  focus
   intro c2;first|exact dn c2|(
    have d2:=c2;try simp at d2
    refine zB (wM (h:=wM (h:=w_ (bs (h:=w_ (ap (h:=W3 (h:=nE (h:=?_))))))))))
  all_goals refine zI ?_
  all_goals first
  | (
   refine zA ?_;refine zB (w_ (b_ (h:=wM (h:=nE (h:=?_)))))))
 all_goals first
 | (refine(ih ((i+1,out++[(i:Int)])) (⟨by simp;omega,by simp;omega⟩) ?_ _ ?_).trans ?_;(focus (first|omega|(simp;done)|(simp;omega)));(focus (simp[zH,hw];done));(focus (have d3:kZ d a=true:=(by simpa [kZ] using d2);simp only[e1,qJ,d3,if_true];simp)))
 | (refine(ih ((i+1,out)) (⟨by simp;omega,by simp;omega⟩) ?_ _ ?_).trans ?_;(focus (first|omega|(simp;done)|(simp;omega)));(focus (simp[zH,hw];done));(focus (have d3:kZ d a=false:=(by simpa [kZ] using d2);simp only[e1,qJ,d3];simp)))
 | (apply zP (ex:=(Ext.exit 0)) 2 (some [5]);(focus (simp[zH];rfl));(focus (simp only[List.drop_eq_nil_of_le (show pl.length<=i by omega),qJ];simp)))
theorem zJ3 (pl:List Nd) (a:Int) (hp:pl.length<2000000) (hk:okN pl):oc.call 52 [.lst false 0 (nds false 0 pl),.int .i64 a]=some (.lst true 1 (ints (qJ a 0 pl)),[]):=by
 refine qA rfl cd52 rfl rfl rfl (by simp;rfl) (by simp;rfl) ?_;refine wa_ (zB (w_ (aN (h:=nE (h:=zA (wa_ (zB (w_ (bs (h:=W3 (h:=nE (h:=zA (wa_ ?_)))))))))))));refine wa_ (zB (wM (h:=w_ (le (h:=wM (h:=nE (h:=zA (zG ?_))))))));refine qH (zSn pl a hp hk (0,[]) (by simp) _ (by simp[zH])) ?_;refine zS (zA (wa_ (zB (wM (h:=W3 (h:=nE (h:=zA (zF ?_))))))))
 all_goals (refine qX (hr:=(zL rfl zM)) (h:=?_);(focus (first|(simp_all;done)|(simp_all<;>omega)|(simp_all<;>split<;>simp_all<;>omega))))
end Go.Proofs.YtbcgenkegnmkhaaGreat.Ev
namespace Go.Proofs.YtbcgenkegnmkhaaGreat.Ev
open Go
set_option maxRecDepth 100000
set_option linter.unusedSimpArgs false
set_option linter.unusedVariables false
set_option maxHeartbeats 2000000
def Wf (pl:List Nd):Prop:=∀(n:Nat) d,pl[n]? = some d->qE7 d n
theorem zPi {pl:List Nd} (hp:pl.length<2000000):∀(r:List Nd) (ws:List Int),r=pl.drop ws.length->(jO pl r ws).2=0->∀(n:Nat) d,ws.length<=n->pl[n]? = some d->qE7 d n
 | [],ws,e,_,n,d,hn,hd=>by
  have:pl.length<=ws.length:=by
   have:=congrArg List.length e;simp at this;omega
  have:=(List.getElem?_eq_some_iff.mp hd).1
  omega
 | x::r,ws,e,h,n,d,hn,hd=>by
  unfold jO at h
  have hx:pl[ws.length]? = some x:=by
   have:=congrArg (fun l=>l[0]?) e
   simpa using this.symm
  have hr:r=pl.drop (ws.length+1):=by
   have:=congrArg List.tail e
   simpa [List.tail_drop] using this
  split at h
  ·rename_i hs
   by_cases hc:n=ws.length
   ·subst hc
    rw[hx] at hd;cases hd;exact zNr (by have:=(List.getElem?_eq_some_iff.mp hx).1;omega) hs
   ·exact zPi hp r (ws++[kL x ws]) (by simpa using hr) h n d (by simp;omega) hd
  ·exact absurd h ‹_›
theorem qCc {pl:List Nd} (h:(yD pl).2=0):Wf pl:=by
 unfold yD at h;split at h
 ·cases h
 ·rename_i hl
  simp[inI] at hl;split at h
  ·exact fun n d hd=>zPi (by omega) pl [] rfl h n d (by simp) hd
  ·exact absurd h ‹_›
end Go.Proofs.YtbcgenkegnmkhaaGreat.Ev
namespace Go.Proofs.YtbcgenkegnmkhaaGreat.Ev
open Go
set_option maxRecDepth 100000
set_option linter.unusedSimpArgs false
set_option linter.unusedVariables false
set_option maxHeartbeats 2000000
def zN9 (a b:Int):Int:=if a<b then -1 else if b<a then 1 else 0
theorem qJq (a:Int):oc.call 248 [.int .i64 a]=some (.bool false,[]):=by
 refine qA rfl cd248 rfl rfl rfl (by simp;rfl) (by simp;rfl) ?_;refine wa_ (zB (W3 (h:=nE (h:=zA (wa_ (zB (wM (h:=wM (h:=w_ (bE (h:=W3 (h:=nE (h:=?_)))))))))))));refine zA (zF ?_)
 all_goals (refine qX (hr:=(zL rfl zM)) (h:=?_);(focus (first|(simp_all;done)|(simp_all<;>omega)|(simp_all<;>split<;>simp_all<;>omega))))
theorem qE1 (a b:Int):oc.call 219 [.int .i64 a,.int .i64 b]=some (.int .i64 (zN9 a b),[]):=by
 refine qA rfl cd219 rfl rfl rfl (by simp;rfl) (by simp;rfl) ?_;refine wa_ (zB (W3 (h:=nE (h:=zA (wa_ (zB (wM (h:=w_ (ca (hc:=qJq _) (h:=W3 (h:=nE (h:=zA ?_))))))))))));refine wa_ (zB (wM (h:=w_ (ca (hc:=qJq _) (h:=W3 (h:=nE (h:=zA (wa_ (wa_ (zB (wM (h:=nE (h:=?_)))))))))))));refine zA ?_;refine c_ (h1:=?_) (h2:=?_)
 rotate_right 1
 focus
  intro c1;first|exact dn c1|(
   have d1:=c1;try simp at d1
   refine zC ?_)
 rotate_right 1
 focus
  intro c1;first|exact dn c1|(
   have d1:=c1;try simp at d1
   refine wa_ (wa_ (zB (wM (h:=nE (h:=zA ?_)))));refine c_ (h1:=?_) (h2:=?_)
   rotate_right 1
   focus
    intro c2;first|exact dn c2|(
     have d2:=c2;try simp at d2
     refine zC ?_)
   rotate_right 1
   focus
    intro c2;first|exact dn c2|(
     have d2:=c2;try simp at d2
     refine wa_ (zB (W3 (h:=nE (h:=zA (zF ?_))))))
   all_goals first|refine zK ?_|(
    refine zA ?_;refine wa_ (zB (W3 (h:=nE (h:=zA (zF ?_)))))))
 all_goals first|refine zK ?_|(
  refine zA ?_;refine wa_ (wa_ (zB (wM (h:=nE (h:=zA ?_)))));refine c_ (h1:=?_) (h2:=?_)
  rotate_right 1
  focus
   intro c3;first|exact dn c3|(
    have d3:=c3;try simp at d3
    refine zC ?_)
  rotate_right 1
  focus
   intro c3;first|exact dn c3|(
    have d3:=c3;try simp at d3
    refine wa_ (zB (W3 (h:=nE (h:=zA (zF ?_))))))
  all_goals first|refine zK ?_|(
   refine zA ?_;refine wa_ (wa_ (zB (wM (h:=wM (h:=w_ (b_ (h:=nE (h:=zA ?_))))))));refine c_ (h1:=?_) (h2:=?_)
   rotate_right 1
   focus
    intro c4;first|exact dn c4|(
     have d4:=c4;try simp at d4
     refine zC ?_)
   rotate_right 1
   focus
    intro c4;first|exact dn c4|(
     have d4:=c4;try simp at d4
     refine wa_ (zB (W3 (h:=nE (h:=zA (zF ?_))))))
   all_goals first|refine zK ?_|(
    refine zA ?_;refine wa_ (wa_ (zB (wM (h:=wM (h:=w_ (b_ (h:=nE (h:=zA ?_))))))));refine c_ (h1:=?_) (h2:=?_)
    rotate_right 1
    focus
     intro c5;first|exact dn c5|(
      have d5:=c5;try simp at d5
      refine zC ?_)
    rotate_right 1
    focus
     intro c5;first|exact dn c5|(
      have d5:=c5;try simp at d5
      refine wa_ (zB (W3 (h:=nE (h:=zA (zF ?_))))))
    all_goals first|refine zK ?_|(
     refine zA ?_;refine wa_ (zB (W3 (h:=nE (h:=zA (zF ?_)))))))))
 all_goals (refine qX (hr:=(zL rfl zM)) (h:=?_);(focus (simp[zN9];grind)))
theorem l_or (a b:Int):∀i:Nat,(i<=2)->∀s,zH 1 (some [3,6,7,8]) s=⟨[(3,.int .i64 0),(6,.lst false 0 (ints [a,b])),(7,.int .i64 2),(8,.int .i64 i)],[],1⟩ ->
 oc.loop 225 3 s=some (if([a,b].drop i).all (fun x=>decide (x=0))=true then(.exit 0,⟨[(3,.int .i64 0)],[],1⟩) else(.ret,⟨[(2,.int .i64 (if i=0/\a≠0 then a else b)),(3,.int .i64 0)],[],1⟩)):=by
 refine zV (σ:=Nat) (fun i=>2 - i) _ (fun i=>⟨[(3,.int .i64 0),(6,.lst false 0 (ints [a,b])),(7,.int .i64 2),(8,.int .i64 i)],[],1⟩) _ ?_;intro i hi ih s hs;refine qD qIy rfl rfl hs ?_;refine wa_ (zB (w_ (b_ (h:=nE (h:=zA (wa_ ?_))))));refine c_ (h1:=?_) (h2:=?_)
 rotate_right 1
 focus
  intro c1;first|exact dn c1|(
   have d1:=c1;try simp at d1
   have:i=2:=(by omega);subst this
   refine zW ?_)
 rotate_right 1
 focus
  intro c1;first|exact dn c1|(
   have d1:=c1;try simp at d1
   have hw:=zU (i:=i) (by omega);obtain⟨x,hx,e1,g1⟩:=kJ (l:=[a,b]) (i:=i) (by simp;omega);refine zC ?_)
 all_goals first|refine zR ?_|(
  refine zA ?_;refine wa_ (zG (wa_ (zB (w_ (x_ (h:=w_ (l_ (h:=W3 (h:=nE (h:=zA (wa_ (zB (wM (h:=?_))))))))))))));refine wM (h:=w_ (bE (h:=nE (h:=zA ?_))));refine c_ (h1:=?_) (h2:=?_)
  rotate_right 1
  focus
   intro c2;first|exact dn c2|(
    have d2:=c2;try simp at d2
    refine zC ?_)
  rotate_right 1
  focus
   intro c2;first|exact dn c2|(
    have d2:=c2;try simp at d2
    refine wa_ (zB (wM (h:=W3 (h:=nE (h:=zA (zF ?_)))))))
  all_goals first|refine zI ?_|refine zX ?_
  all_goals first|refine zK ?_|(
   refine zA ?_;refine zB (w_ (b_ (h:=wM (h:=nE (h:=?_)))))))
 all_goals first
 | (refine(ih (i+1) (by omega) ?_ _ ?_).trans ?_;(focus (first|omega|(simp;done)|(simp;omega)));(focus (simp[zH,hw];done));(focus (rcases i with _|_|i<;>simp at * <;> grind)))
 | (apply zP (ex:=Ext.ret) 1 (some [2,3]);(focus (simp[zH];rfl));(focus (rcases i with _|_|i<;>simp at * <;> grind)))
 | (apply zP (ex:=(Ext.exit 0)) 1 (some [2,3]);(focus (simp[zH];rfl));(focus (simp)))
theorem e_or (a b:Int):oc.call 225 [.lst false 0 (ints [a,b])]=some (.int .i64 (if a=0 then b else a),[]):=by
 refine qA rfl qIy rfl rfl rfl (by simp;rfl) (by simp;rfl) ?_;refine wa_ (zB (W3 (h:=nE (h:=zA (wa_ (zB (W3 (h:=nE (h:=zA (wa_ (wa_ ?_)))))))))));refine zB (wM (h:=w_ (le (h:=wM (h:=nE (h:=zA (zG ?_)))))));refine qY (l_or a b 0 (by omega) _ (by simp[zH])) ?_ ?_
 rotate_right 1
 focus
  intro c1
  skip
 rotate_right 1
 focus
  intro c1
  skip
 all_goals first|refine zX ?_|refine zS ?_
 all_goals first|refine zK ?_|(
  refine zA ?_;refine wa_ (zB (wM (h:=W3 (h:=nE (h:=zA (zF ?_)))))))
 all_goals (refine qX (hr:=(zL rfl zM)) (h:=?_);(focus (simp at * <;> grind)))
def byC (a b:Ct):Int:=if zN9 a.pl b.pl=0 then zN9 a.ep b.ep else zN9 a.pl b.pl
theorem e_byC (a b:Ct):oc.call 181 [a.v,b.v]=some (.int .i64 (byC a b),[]):=by
 refine qA rfl cd181 rfl rfl rfl (by simp;rfl) (by simp;rfl) ?_;refine wa_ (zB (w_ (bx (h:=w_ (bx (h:=W3 (h:=nE (h:=zA (wa_ (qE (y_ (f_ (h:=ax_ (h:=y_ (l_ (h:=ax_ (h:=y_ (f_ (h:=ax_ (h:=?_))))))))))))))))))));refine y_ (l_ (h:=ax_ (h:=y_ (ca (hc:=qE1 _ _) (h:=ax_ (h:=y_ (f_ (h:=ax_ (h:=y_ (l_ (h:=ax_ (h:=y_ (f_ (h:=ax_ (h:=y_ (l_ (h:=ax_ (h:=y_ (ca (hc:=qE1 _ _) (h:=ax_ (h:=y_ (bs (h:=ax_ (h:=y_ (ca (hc:=e_or _ _) (h:=ax_ (h:=y_ (a_ (h:=ax_ (h:=qO (ed (h:=zA ?_))))))))))))))))))))))))))))))));refine zF ?_
 all_goals (refine qX (hr:=(zL rfl zM)) (h:=?_);(focus (simp[byC])))
def zM6 (a b:Ct):Bool:=if a.pl=b.pl then decide (a.ep<b.ep) else decide (a.pl<b.pl)
theorem zLx (a b:Ct):(0<=byC a b)=(zM6 a b=false):=by
 simp only[byC,zN9,zM6];grind
theorem qE2 {a b:Ct} (h:0<=byC a b):zM6 a b=false:=by rw[zLx] at h;exact h
theorem qG4 {a b:Ct} (h:byC a b<0):zM6 a b=true:=by
 cases h2:zM6 a b with
 | true=>rfl
 | false=>rw[<-zLx] at h2;omega
def zIm (pl:List Nd) (c:Ct):Bool:=isPl pl c.pl&&(inI c.ep 0 1000&&inI c.n (-1000000000000) 1000000000000)
theorem zVf (pl:List Nd) (c:Ct) (hp:pl.length<2000000):oc.call 180 [.lst false 0 (nds false 0 pl),c.v]=some (.bool (zIm pl c),[]):=by
 refine qA rfl cd180 rfl rfl rfl (by simp;rfl) (by simp;rfl) ?_;refine wa_ (zB (w_ (bx (h:=W3 (h:=nE (h:=zA (wa_ (zB (wM (h:=w_ (f_ (h:=w_ (l_ (h:=w_ (ca (hc:=zWu pl _ hp) (h:=?_))))))))))))))));refine wM (h:=?_);refine gw_ (h1:=?_) (h2:=?_)
 rotate_right 1
 focus
  intro c1;refine go_ (h:=go_ (h:=go_ (h:=?_)))
 rotate_right 1
 focus
  intro c1;refine g_ (h:=w_ (f_ (h:=g_ (h:=w_ (l_ (h:=g_ (h:=w_ (ca (hc:=zFp _ _ _) (h:=?_)))))))))
 all_goals
  refine w_ (pk (h:=wM (h:=?_)));refine gw_ (h1:=?_) (h2:=?_)
  rotate_right 1
  focus
   intro c2;refine go_ (h:=go_ (h:=go_ (h:=?_)))
  rotate_right 1
  focus
   intro c2;refine g_ (h:=w_ (f_ (h:=g_ (h:=w_ (l_ (h:=g_ (h:=w_ (ca (hc:=zEd _) (h:=?_)))))))))
  all_goals
   refine w_ (pk (h:=W3 (h:=nE (h:=?_))))
 all_goals first
 | (
  refine zA ?_;refine zF ?_)
 all_goals (refine qX (hr:=(zL rfl zM)) (h:=?_);(focus (simp[zIm] at * <;> grind)))
def zT7 (pl:List Nd):Option Ct->List Ct->Int
 | _,[]=>0
 | p,c::r=>if zIm pl c=false\/c.n=0 then 3 else if(p.elim false fun q=>!zM6 q c)=true then 1 else zT7 pl (some c) r
def zF8 (l:List Ct) (i:Nat):Option Ct:=if i=0 then none else l[i - 1]?
theorem zNb {l:List Ct} {i:Nat} {c:Ct} (h:l[i]? = some c):zF8 l (i+1)=some c:=by simp[zF8,h]
theorem zSq {l:List Ct} {i:Nat} (h0:0<i) (h:i<=l.length) (hi:i<2000000000):∃q,zF8 l i=some q/\(cts l)[(IntKind.i64.wrap ((i:Int) - 1)).toNat]? = some q.v/\0<=IntKind.i64.wrap ((i:Int) - 1):=by
 have hw:IntKind.i64.wrap ((i:Int) - 1)=((i - 1:Nat):Int):=by rw[qL (by omega) (by omega)];omega
 have hlt:i - 1<l.length:=by omega
 refine⟨l[i - 1],?_,?_,by rw[hw];omega⟩
 ·unfold zF8;rw[if_neg (by omega)];simp[hlt]
 ·rw[hw];exact qBe hlt
def ctsF (pl:List Nd) (l:List Ct):Int:=if 200<l.length then 2 else zT7 pl none l
theorem qJ4 {pl:List Nd} {p:Option Ct} {c:Ct} {r:List Ct} (h:zIm pl c=false\/c.n=0):zT7 pl p (c::r)=3:=by rw[zT7,if_pos h]
theorem qIu {pl:List Nd} {p:Option Ct} {c:Ct} {r:List Ct} (h:¬(zIm pl c=false\/c.n=0)) (h2:(p.elim false fun q=>!zM6 q c)=true):zT7 pl p (c::r)=1:=by rw[zT7,if_neg h,if_pos h2]
theorem qIs {pl:List Nd} {p:Option Ct} {c:Ct} {r:List Ct} (h:¬(zIm pl c=false\/c.n=0)) (h2:¬(p.elim false fun q=>!zM6 q c)=true):zT7 pl p (c::r)=zT7 pl (some c) r:=by rw[zT7,if_neg h,if_neg h2]
theorem qMl (pl:List Nd) (l:List Ct) (hp:pl.length<2000000) (hl:l.length<=200):∀i:Nat,(i<=l.length)->∀s,zH 2 (some [0,1,10,11,12]) s=⟨[(0,.lst false 0 (nds false 0 pl)),(1,.lst false 0 (cts l)),(10,.lst false 0 (cts l)),(11,.int .i64 l.length),(12,.int .i64 i)],[],2⟩ ->
 oc.loop 117 4 s=some (if zT7 pl (zF8 l i) (l.drop i)=0 then(.exit 0,⟨[],[],2⟩) else(.ret,⟨[(4,.int .i64 (zT7 pl (zF8 l i) (l.drop i)))],[],2⟩)):=by
 refine zV (σ:=Nat) (fun i=>l.length - i) _ (fun i=>⟨[(0,.lst false 0 (nds false 0 pl)),(1,.lst false 0 (cts l)),(10,.lst false 0 (cts l)),(11,.int .i64 l.length),(12,.int .i64 i)],[],2⟩) _ ?_;intro i hi ih s hs;refine qD qKv rfl rfl hs ?_;refine wa_ (zB (w_ (b_ (h:=nE (h:=zA (wa_ ?_))))));refine c_ (h1:=?_) (h2:=?_)
 rotate_right 1
 focus
  intro c1;first|exact dn c1|(
   have d1:=c1;try simp at d1
   refine zW ?_)
 rotate_right 1
 focus
  intro c1;first|exact dn c1|(
   have d1:=c1;try simp at d1
   have hw:=zU (i:=i) (by omega);obtain⟨c,hx,e1,g1⟩:=qFk (l:=l) (i:=i) (by omega);have hs1:=zNb hx;refine zC ?_)
 all_goals first|refine zR ?_|(
  refine zA ?_;refine wa_ (zG (wa_ (zB (wM (h:=w_ (x_ (h:=w_ (l_ (h:=w_ (al (h:=W3 (h:=w0 (s_ (h:=nE (h:=zA ?_)))))))))))))));refine wa_ (wa_ (zB (wM (h:=w_ (l_ (h:=w_ (ca (hc:=zVf pl c hp) (h:=w_ (u_ (h:=wM (h:=?_)))))))))));refine gw_ (h1:=?_) (h2:=?_)
  rotate_right 1
  focus
   intro c2;first|exact dn c2|(
    have d2:=c2;try simp at d2
    refine go_ (h:=go_ (h:=go_ (h:=?_))))
  rotate_right 1
  focus
   intro c2;first|exact dn c2|(
    have d2:=c2;try simp at d2
    refine g_ (h:=w_ (f_ (h:=g_ (h:=w_ (l_ (h:=g_ (h:=w_ (bE (h:=?_))))))))))
  all_goals
   refine w_ (pk (h:=nE (h:=?_)))
  all_goals first
  | (
   refine zA ?_;refine c_ (h1:=?_) (h2:=?_)
   rotate_right 1
   focus
    intro c3;first|exact dn c3|(
     have d3:=c3;try simp at d3
     refine zC ?_)
   rotate_right 1
   focus
    intro c3;first|exact dn c3|(
     have d3:=c3;try simp at d3
     refine wa_ (zB (W3 (h:=nE (h:=zA (zF ?_)))))))
  all_goals first|refine zK ?_|(
   refine zA ?_;refine wa_ (qE (yM (h:=y_ (b_ (h:=ax_ (h:=yM (h:=?_)))))));refine gw_ (h1:=?_) (h2:=?_)
   rotate_right 1
   focus
    intro c4;first|exact dn c4|(
     have d4:=c4;try simp at d4
     refine gd_ (h:=gd_ (h:=gd_ (h:=gd_ (h:=gd_ (h:=gd_ (h:=gd_ (h:=gd_ (h:=?_)))))))))
   rotate_right 1
   focus
    intro c4;first|exact dn c4|(
     have d4:=c4;try simp at d4
     obtain⟨q,hq,g2,g3⟩:=zSq (l:=l) (i:=i) (by omega) (by omega) (by omega);refine g_ (h:=yM (h:=g_ (h:=yM (h:=g_ (h:=y_ (b_ (h:=ax_ (h:=g_ (h:=y_ (x_ (h:=ax_ (h:=g_ (h:=y_ (l_ (h:=ax_ (h:=g_ (h:=y_ (l_ (h:=ax_ (h:=g_ (h:=y_ (ca (hc:=e_byC q c) (h:=ax_ (h:=g_ (h:=y_ (b_ (h:=ax_ (h:=?_)))))))))))))))))))))))))))))
   all_goals
    refine y_ (pk (h:=ax_ (h:=qO (ed (h:=?_)))))
   all_goals first
   | (
    refine zA ?_;refine c_ (h1:=?_) (h2:=?_)
    rotate_right 1
    focus
     intro c5;first|exact dn c5|(
      have d5:=c5;try simp at d5
      refine zC ?_)
    rotate_right 1
    focus
     intro c5;first|exact dn c5|(
      have d5:=c5;try simp at d5
      refine wa_ (zB (W3 (h:=nE (h:=zA (zF ?_))))))))
  all_goals first|refine zI ?_|refine zX ?_
  all_goals first|refine zK ?_|(
   refine zA ?_;refine zB (w_ (b_ (h:=wM (h:=nE (h:=?_)))))))
 all_goals first
 | (refine(ih (i+1) (by omega) ?_ _ ?_).trans ?_;(focus (first|omega|(simp;done)|(simp;omega)));(focus (simp[zH,hw];done));(focus (rw[hs1,e1,qIs (by simp[d2,d3]) (by first|(rw[hq];simp[qG4 d5];done)|(subst d4;simp[zF8]))])))
 | (apply zP (ex:=Ext.ret) 2 (some [4]);(focus (simp[zH];rfl));(focus (rw[e1,qJ4 (by first|exact .inl d2|exact .inr d3)];simp)))
 | (apply zP (ex:=Ext.ret) 2 (some [4]);(focus (simp[zH];rfl));(focus (rw[e1,qIu (by simp[d2,d3]) (by rw[hq];simp[qE2 d5])];simp)))
 | (apply zP (ex:=(Ext.exit 0)) 2 (some [4]);(focus (simp[zH];rfl));(focus (rw[List.drop_eq_nil_of_le (by omega)];simp[zT7])))
theorem qJk (pl:List Nd) (l:List Ct) (hp:pl.length<2000000):oc.call 117 [.lst false 0 (nds false 0 pl),.lst false 0 (cts l)]=some (.int .i64 (ctsF pl l),[]):=by
 refine qA rfl qKv rfl rfl rfl (by simp;rfl) (by simp;rfl) ?_;refine wa_ (zB (W3 (h:=nE (h:=zA (wa_ (wa_ (zB (wM (h:=w_ (le (h:=w_ (b_ (h:=nE (h:=?_))))))))))))));refine zA ?_;refine c_ (h1:=?_) (h2:=?_)
 rotate_right 1
 focus
  intro c1;first|exact dn c1|(
   have d1:=c1;try simp at d1
   refine zC ?_)
 rotate_right 1
 focus
  intro c1;first|exact dn c1|(
   have d1:=c1;try simp at d1
   refine wa_ (zB (W3 (h:=nE (h:=zA (zF ?_))))))
 all_goals first|refine zK ?_|(
  refine zA ?_;refine wa_ (wa_ (zB (wM (h:=w_ (le (h:=wM (h:=nE (h:=zA (zG ?_)))))))));refine qY (qMl pl l hp (by omega) 0 (by omega) _ (by simp[zH])) ?_ ?_
  rotate_right 1
  focus
   intro c2;first|exact dn c2|(
    have d2:=c2;try simp at d2
    skip)
  rotate_right 1
  focus
   intro c2;first|exact dn c2|(
    have d2:=c2;try simp at d2
    skip)
  all_goals first|refine zX ?_|refine zS ?_
  all_goals first|refine zK ?_|(
   refine zA ?_;refine wa_ (zB (W3 (h:=nE (h:=zA (zF ?_)))))))
 all_goals (refine qX (hr:=(zL rfl zM)) (h:=?_);(focus (simp[ctsF,zF8] at * <;> grind)))
end Go.Proofs.YtbcgenkegnmkhaaGreat.Ev
namespace Go.Proofs.YtbcgenkegnmkhaaGreat.Ev
open Go
set_option maxRecDepth 100000
set_option linter.unusedSimpArgs false
set_option linter.unusedVariables false
set_option maxHeartbeats 2000000
def zI0 (r:List Int):Int:=if 4<r.length then 2 else if r.all (fun c=>inI c (-1000000000) 1000000000)=true then 0 else 3
theorem qHx (r:List Int) (hr:r.length<=4):∀i:Nat,(i<=r.length)->∀s,zH 1 (some [8,9,10]) s=⟨[(8,.lst false 0 (ints r)),(9,.int .i64 r.length),(10,.int .i64 i)],[],1⟩ ->
 oc.loop 55 4 s=some (if(r.drop i).all (fun c=>inI c (-1000000000) 1000000000)=true then(.exit 0,⟨[],[],1⟩) else(.ret,⟨[(2,.int .i64 3)],[],1⟩)):=by
 refine zV (σ:=Nat) (fun i=>r.length - i) _ (fun i=>⟨[(8,.lst false 0 (ints r)),(9,.int .i64 r.length),(10,.int .i64 i)],[],1⟩) _ ?_;intro i hi ih s hs;refine qD cd55 rfl rfl hs ?_;refine wa_ (zB (w_ (b_ (h:=nE (h:=zA (wa_ ?_))))));refine c_ (h1:=?_) (h2:=?_)
 rotate_right 1
 focus
  intro c1;first|exact dn c1|(
   have d1:=c1;try simp at d1
   refine zW ?_)
 rotate_right 1
 focus
  intro c1;first|exact dn c1|(
   have d1:=c1;try simp at d1
   have hw:=zU (i:=i) (by omega);obtain⟨x,hx,e1,g1⟩:=kJ (l:=r) (i:=i) (by omega);refine zC ?_)
 all_goals first|refine zR ?_|(
  refine zA ?_;refine wa_ (zG (wa_ (zB (w_ (x_ (h:=w_ (l_ (h:=W3 (h:=nE (h:=zA (wa_ (zB (wM (h:=?_))))))))))))));refine w_ (ca (hc:=zFp _ _ _) (h:=w_ (u_ (h:=nE (h:=zA ?_)))));refine c_ (h1:=?_) (h2:=?_)
  rotate_right 1
  focus
   intro c2;first|exact dn c2|(
    have d2:=c2;try simp at d2
    refine zC ?_)
  rotate_right 1
  focus
   intro c2;first|exact dn c2|(
    have d2:=c2;try simp at d2
    refine wa_ (zB (W3 (h:=nE (h:=zA (zF ?_))))))
  all_goals first|refine zI ?_|refine zX ?_
  all_goals first|refine zK ?_|(
   refine zA ?_;refine zB (w_ (b_ (h:=wM (h:=nE (h:=?_)))))))
 all_goals first
 | (refine(ih (i+1) (by omega) ?_ _ ?_).trans ?_;(focus (first|omega|(simp;done)|(simp;omega)));(focus (simp[zH,hw];done));(focus (rw[e1];simp[d2])))
 | (apply zP (ex:=Ext.ret) 1 (some [2]);(focus (simp[zH];rfl));(focus (rw[e1];simp[d2])))
 | (apply zP (ex:=(Ext.exit 0)) 1 (some [2]);(focus (simp[zH];rfl));(focus (rw[List.drop_eq_nil_of_le (by omega)];simp)))
theorem qB3 (r:List Int) (h:r.length<2000000):oc.call 55 [.lst false 0 (ints r)]=some (.int .i64 (zI0 r),[]):=by
 refine qA rfl cd55 rfl rfl rfl (by simp;rfl) (by simp;rfl) ?_;refine wa_ (zB (W3 (h:=nE (h:=zA (wa_ (wa_ (zB (wM (h:=w_ (le (h:=w_ (b_ (h:=nE (h:=?_))))))))))))));refine zA ?_;refine c_ (h1:=?_) (h2:=?_)
 rotate_right 1
 focus
  intro c1;first|exact dn c1|(
   have d1:=c1;try simp at d1
   refine zC ?_)
 rotate_right 1
 focus
  intro c1;first|exact dn c1|(
   have d1:=c1;try simp at d1
   refine wa_ (zB (W3 (h:=nE (h:=zA (zF ?_))))))
 all_goals first|refine zK ?_|(
  refine zA ?_;refine wa_ (wa_ (zB (wM (h:=w_ (le (h:=wM (h:=nE (h:=zA (zG ?_)))))))));refine qY (qHx r (by omega) 0 (by omega) _ (by simp[zH])) ?_ ?_
  rotate_right 1
  focus
   intro c2;first|exact dn c2|(
    have d2:=c2;try simp at d2
    skip)
  rotate_right 1
  focus
   intro c2;first|exact dn c2|(
    have d2:=c2;try simp at d2
    skip)
  all_goals first|refine zX ?_|refine zS ?_
  all_goals first|refine zK ?_|(
   refine zA ?_;refine wa_ (zB (W3 (h:=nE (h:=zA (zF ?_)))))))
 all_goals (refine qX (hr:=(zL rfl zM)) (h:=?_);(focus (simp[zI0];grind)))
theorem qL9 (r:List Int) (hr:r.length<=4):∀i:Nat,(i<=r.length)->∀s,zH 1 (some [0,3]) s=⟨[(0,.lst false 0 (ints r)),(3,.int .i64 i)],[],1⟩ ->
 oc.loop 173 4 s=some (if(r.drop i).all (fun c=>inI c (-1000000000) 1000000000)=true then(.exit 0,⟨[],[],1⟩) else(.ret,⟨[(2,.int .i64 3)],[],1⟩)):=by
 refine zV (σ:=Nat) (fun i=>r.length - i) _ (fun i=>⟨[(0,.lst false 0 (ints r)),(3,.int .i64 i)],[],1⟩) _ ?_;intro i hi ih s hs;refine qD qL2 rfl rfl hs ?_;refine wa_ (wa_ (zB (wM (h:=wM (h:=w_ (le (h:=w_ (b_ (h:=nE (h:=zA ?_))))))))));refine c_ (h1:=?_) (h2:=?_)
 rotate_right 1
 focus
  intro c1;first|exact dn c1|(
   have d1:=c1;try simp at d1
   refine zW ?_)
 rotate_right 1
 focus
  intro c1;first|exact dn c1|(
   have d1:=c1;try simp at d1
   have hw:=zU (i:=i) (by omega);obtain⟨x,hx,e1,g1⟩:=kJ (l:=r) (i:=i) (by omega);refine zC ?_)
 all_goals first|refine zR ?_|(
  refine zA ?_;refine wa_ (zG (wa_ (zB (wM (h:=wM (h:=w_ (x_ (h:=w_ (l_ (h:=w_ (ca (hc:=xW _ _ _) (h:=w_ (u_ (h:=nE (h:=zA ?_)))))))))))))));refine c_ (h1:=?_) (h2:=?_)
  rotate_right 1
  focus
   intro c2;first|exact dn c2|(
    have d2:=c2;try simp at d2
    refine zC ?_)
  rotate_right 1
  focus
   intro c2;first|exact dn c2|(
    have d2:=c2;try simp at d2
    refine wa_ (zB (W3 (h:=nE (h:=zA (zF ?_))))))
  all_goals first|refine zI ?_|refine zX ?_
  all_goals first|refine zK ?_|(
   refine zA ?_;refine zB (wM (h:=w_ (b_ (h:=W3 (h:=nE (h:=?_))))))))
 all_goals first
 | (refine(ih (i+1) (by omega) ?_ _ ?_).trans ?_;(focus (first|omega|(simp;done)|(simp;omega)));(focus (simp[zH,hw];done));(focus (rw[e1];simp[d2])))
 | (apply zP (ex:=Ext.ret) 1 (some [2]);(focus (simp[zH];rfl));(focus (rw[e1];simp[d2])))
 | (apply zP (ex:=(Ext.exit 0)) 1 (some [2]);(focus (simp[zH];rfl));(focus (rw[List.drop_eq_nil_of_le (by omega)];simp)))
theorem qMe (r:List Int) (h:r.length<2000000):oc.call 173 [.lst false 0 (ints r)]=some (.int .i64 (zI0 r),[]):=by
 refine qA rfl qL2 rfl rfl rfl (by simp;rfl) (by simp;rfl) ?_;refine wa_ (zB (W3 (h:=nE (h:=zA (wa_ (wa_ (zB (wM (h:=w_ (le (h:=w_ (b_ (h:=nE (h:=?_))))))))))))));refine zA ?_;refine c_ (h1:=?_) (h2:=?_)
 rotate_right 1
 focus
  intro c1;first|exact dn c1|(
   have d1:=c1;try simp at d1
   refine zC ?_)
 rotate_right 1
 focus
  intro c1;first|exact dn c1|(
   have d1:=c1;try simp at d1
   refine wa_ (zB (W3 (h:=nE (h:=zA (zF ?_))))))
 all_goals first|refine zK ?_|(
  refine zA ?_;refine wa_ (wa_ (zB (W3 (h:=nE (h:=zA (zG ?_))))));refine qY (qL9 r (by omega) 0 (by omega) _ (by simp[zH])) ?_ ?_
  rotate_right 1
  focus
   intro c2;first|exact dn c2|(
    have d2:=c2;try simp at d2
    skip)
  rotate_right 1
  focus
   intro c2;first|exact dn c2|(
    have d2:=c2;try simp at d2
    skip)
  all_goals first|refine zX ?_|refine zS ?_
  all_goals first|refine zK ?_|(
   refine zA ?_;refine wa_ (zB (W3 (h:=nE (h:=zA (zF ?_)))))))
 all_goals (refine qX (hr:=(zL rfl zM)) (h:=?_);(focus (simp[zI0];grind)))
theorem zWx {r:List Int} (h:zI0 r=0):r.length<=4/\∀c∈r,-1000000000<=c/\c<=1000000000:=by
 unfold zI0 at h;split at h
 ·cases h
 ·split at h
  ·rename_i h1 h2
   refine⟨by omega,fun c hc=>?_⟩
   have:=List.all_eq_true.1 h2 c hc
   simp[inI] at this;exact this
  ·cases h
def zFd (h c:Int):Int:=(IntKind.i64.wrap (IntKind.i64.wrap (h * 131)+(IntKind.i64.wrap (c.tmod 1000003+1000003)).tmod 1000003)).tmod 1000003
def zNu (r:List Int):Int:=r.foldl zFd 17
theorem qEg (r:List Int) (hr:r.length<2000000):∀x:Nat×Int,(x.1<=r.length)->∀s,zH 1 (some [3,6,7,8]) s=⟨[(3,.int .i64 x.2),(6,.lst false 0 (ints r)),(7,.int .i64 r.length),(8,.int .i64 x.1)],[],1⟩ ->
 oc.loop 183 3 s=some (.exit 0,⟨[(3,.int .i64 ((r.drop x.1).foldl zFd x.2))],[],1⟩):=by
 refine zV (σ:=Nat×Int) (fun x=>r.length - x.1) _ (fun x=>⟨[(3,.int .i64 x.2),(6,.lst false 0 (ints r)),(7,.int .i64 r.length),(8,.int .i64 x.1)],[],1⟩) _ ?_;rintro⟨i,h⟩ hi ih s hs;simp only at hi;refine qD qLi rfl rfl hs ?_;refine wa_ (zB (w_ (b_ (h:=nE (h:=zA (wa_ ?_))))));refine c_ (h1:=?_) (h2:=?_)
 rotate_right 1
 focus
  intro c1;first|exact dn c1|(
   have d1:=c1;try simp at d1
   refine zW ?_)
 rotate_right 1
 focus
  intro c1;first|exact dn c1|(
   have d1:=c1;try simp at d1
   have hw:=zU (i:=i) (by omega);obtain⟨x,hx,e1,g1⟩:=kJ (l:=r) (i:=i) (by omega);refine zC ?_)
 all_goals first|refine zR ?_|(
  refine zA ?_;refine wa_ (zG (wa_ (zB (w_ (x_ (h:=w_ (l_ (h:=W3 (h:=nE (h:=zA (zB (wM (h:=w_ (b_ (h:=?_)))))))))))))));refine wM (h:=w_ (b_ (h:=w_ (b_ (h:=w_ (b_ (h:=w_ (b_ (h:=w_ (b_ (h:=W3 (h:=nE (h:=zI (zA (zB (w_ (b_ (h:=?_))))))))))))))))));refine wM (h:=nE (h:=?_)))
 all_goals first
 | (refine(ih ((i+1,zFd h x)) (by simp;omega) ?_ _ ?_).trans ?_;(focus (first|omega|(simp;done)|(simp;omega)));(focus (simp[zH,hw,zFd];done));(focus (simp only[e1,List.foldl_cons])))
 | (apply zP (ex:=(Ext.exit 0)) 1 (some [3]);(focus (simp[zH];rfl));(focus (simp only[List.drop_eq_nil_of_le (show r.length<=i by omega),List.foldl_nil])))
theorem qFy (r:List Int) (h:r.length<2000000):oc.call 183 [.lst false 0 (ints r)]=some (.int .i64 (zNu r),[]):=by
 refine qA rfl qLi rfl rfl rfl (by simp;rfl) (by simp;rfl) ?_;refine wa_ (zB (W3 (h:=nE (h:=zA (wa_ (zB (W3 (h:=nE (h:=zA (wa_ (wa_ ?_)))))))))));refine zB (wM (h:=w_ (le (h:=wM (h:=nE (h:=zA (zG ?_)))))));refine qH (qEg r h (0,17) (by simp) _ (by simp[zH])) ?_;refine zS (zA (wa_ (zB (wM (h:=W3 (h:=nE (h:=zA (zF ?_))))))))
 all_goals (refine qX (hr:=(zL rfl zM)) (h:=?_);(focus (simp[zNu])))
theorem qG0 (r:List Int) (hr:r.length<2000000):∀x:Nat×Int,(x.1<=r.length)->∀s,zH 1 (some [0,3,4]) s=⟨[(0,.lst false 0 (ints r)),(3,.int .i64 x.2),(4,.int .i64 x.1)],[],1⟩ ->
 oc.loop 251 3 s=some (.exit 0,⟨[(3,.int .i64 ((r.drop x.1).foldl zFd x.2))],[],1⟩):=by
 refine zV (σ:=Nat×Int) (fun x=>r.length - x.1) _ (fun x=>⟨[(0,.lst false 0 (ints r)),(3,.int .i64 x.2),(4,.int .i64 x.1)],[],1⟩) _ ?_;rintro⟨i,h⟩ hi ih s hs;simp only at hi;refine qD qI8 rfl rfl hs ?_;refine wa_ (wa_ (zB (wM (h:=wM (h:=w_ (le (h:=w_ (b_ (h:=nE (h:=zA ?_))))))))));refine c_ (h1:=?_) (h2:=?_)
 rotate_right 1
 focus
  intro c1;first|exact dn c1|(
   have d1:=c1;try simp at d1
   refine zW ?_)
 rotate_right 1
 focus
  intro c1;first|exact dn c1|(
   have d1:=c1;try simp at d1
   have hw:=zU (i:=i) (by omega);obtain⟨x,hx,e1,g1⟩:=kJ (l:=r) (i:=i) (by omega);refine zC ?_)
 all_goals first|refine zR ?_|(
  refine zA ?_;refine wa_ (zG (wa_ (zB (wM (h:=wM (h:=w_ (x_ (h:=w_ (l_ (h:=w_ (b_ (h:=w_ (b_ (h:=w_ (b_ (h:=W3 (h:=?_)))))))))))))))));refine nE (h:=zA (zB (wM (h:=w_ (b_ (h:=wM (h:=w_ (b_ (h:=w_ (b_ (h:=W3 (h:=nE (h:=zI (zA ?_))))))))))))));refine zB (wM (h:=w_ (b_ (h:=W3 (h:=nE (h:=?_)))))))
 all_goals first
 | (refine(ih ((i+1,zFd h x)) (by simp;omega) ?_ _ ?_).trans ?_;(focus (first|omega|(simp;done)|(simp;omega)));(focus (simp[zH,hw,zFd];done));(focus (simp only[e1,List.foldl_cons])))
 | (apply zP (ex:=(Ext.exit 0)) 1 (some [3]);(focus (simp[zH];rfl));(focus (simp only[List.drop_eq_nil_of_le (show r.length<=i by omega),List.foldl_nil])))
theorem qBp (r:List Int) (h:r.length<2000000):oc.call 251 [.lst false 0 (ints r)]=some (.int .i64 (zNu r),[]):=by
 refine qA rfl qI8 rfl rfl rfl (by simp;rfl) (by simp;rfl) ?_;refine wa_ (zB (W3 (h:=nE (h:=zA (wa_ (zB (W3 (h:=nE (h:=zA (wa_ (wa_ ?_)))))))))));refine zB (W3 (h:=nE (h:=zA (zG ?_))));refine qH (qG0 r h (0,17) (by simp) _ (by simp[zH])) ?_;refine zS (zA (wa_ (zB (wM (h:=W3 (h:=nE (h:=zA (zF ?_))))))))
 all_goals (refine qX (hr:=(zL rfl zM)) (h:=?_);(focus (simp[zNu])))
theorem zR6 {h c:Int} (h0:0<=h) (h1:h<1000003):0<=zFd h c/\zFd h c<1000003:=by
 unfold zFd;have a1:-1000003<c.tmod 1000003/\c.tmod 1000003<1000003:=⟨by have:=Int.lt_tmod_of_pos c (b:=1000003) (by decide);omega,Int.tmod_lt_of_pos c (by decide)⟩;rw[qL (a:=c.tmod 1000003+1000003) (by omega) (by omega),qL (a:=h * 131) (by omega) (by omega)]
 generalize hq:(c.tmod 1000003+1000003).tmod 1000003=q
 have a2:0<=q/\q<1000003:=by rw[<-hq];exact⟨Int.tmod_nonneg _ (by omega),Int.tmod_lt_of_pos _ (by decide)⟩
 rw[qL (by omega) (by omega)];exact⟨Int.tmod_nonneg _ (by omega),Int.tmod_lt_of_pos _ (by decide)⟩
theorem zYl (r:List Int):0<=zNu r/\zNu r<1000003:=by
 have:∀(r:List Int) (h:Int),0<=h->h<1000003->0<=r.foldl zFd h/\r.foldl zFd h<1000003:=by
  intro r
  induction r with
  | nil=>intro h h0 h1;exact⟨h0,h1⟩
  | cons c r ih=>intro h h0 h1;exact ih _ (zR6 h0 h1).1 (zR6 h0 h1).2
 exact this r 17 (by decide) (by decide)
def zH6 (m:Int) (r:List Int) (k:Int):Int:=(zNu (r.take k.toNat)).tmod m
theorem zUh {m:Int} {r:List Int} {k:Int} (hm:0<m):0<=zH6 m r k/\zH6 m r k<m:=by
 have:=zYl (r.take k.toNat)
 exact⟨Int.tmod_nonneg _ this.1,Int.tmod_lt_of_pos _ hm⟩
theorem zZj (m k:Int) (r:List Int) (h:r.length<2000000) (hm:m≠0) (h0:0<=k) (h1:k<=r.length):oc.call 120 [.int .i64 m,.lst false 0 (ints r),.int .i64 k]=some (.int .i64 (zH6 m r k),[]):=by
 refine qA rfl cd120 rfl rfl rfl (by simp;rfl) (by simp;rfl) ?_;refine wa_ (zB (W3 (h:=nE (h:=zA (wa_ (zB (wM (h:=wM (h:=w_ (sl (h:=w_ (ca (hc:=qFy _ (by simp;omega)) (h:=wM (h:=?_))))))))))))));refine w_ (b_ (h:=W3 (h:=nE (h:=zA (zF ?_)))))
 all_goals (refine qX (hr:=(zL rfl zM)) (h:=?_);(focus (simp[zH6])))
theorem zXn (m k:Int) (r:List Int) (h:r.length<2000000) (hm:m≠0) (h0:0<=k) (h1:k<=r.length):oc.call 222 [.int .i64 m,.lst false 0 (ints r),.int .i64 k]=some (.int .i64 (zH6 m r k),[]):=by
 refine qA rfl cd222 rfl rfl rfl (by simp;rfl) (by simp;rfl) ?_;refine wa_ (zB (W3 (h:=nE (h:=zA (wa_ (zB (wM (h:=wM (h:=w_ (sl (h:=w_ (ca (hc:=qBp _ (by simp;omega)) (h:=wM (h:=?_))))))))))))));refine w_ (b_ (h:=W3 (h:=nE (h:=zA (zF ?_)))))
 all_goals (refine qX (hr:=(zL rfl zM)) (h:=?_);(focus (simp[zH6])))
def jT (pl:List Nd):List Int:=(yD pl).1
theorem zI6 {pl:List Nd} (hk:okN pl) (hp:pl.length<2000000):∀(r:List Nd) (ws:List Int),r=pl.drop ws.length->zX8 pl ws->(∀k:Nat,k<ws.length->1<=at0 ws k/\at0 ws k<=4)->(jO pl r ws).2=0->zX8 pl (jO pl r ws).1/\(jO pl r ws).1.length=max pl.length ws.length/\∀k:Nat,k<(jO pl r ws).1.length->1<=at0 (jO pl r ws).1 k/\at0 (jO pl r ws).1 k<=4
 | [],ws,e,G,hb,_=>by
  have:pl.length<=ws.length:=by
   have:=congrArg List.length e;simp at this;omega
  unfold jO;exact⟨G,by simp;omega,hb⟩
 | d::r,ws,e,G,hb,h=>by
  unfold jO at h ⊢
  have hx:pl[ws.length]? = some d:=by
   have:=congrArg (fun l=>l[0]?) e
   simpa using this.symm
  have hlt:=(List.getElem?_eq_some_iff.mp hx).1
  have hr:r=pl.drop (ws.length+1):=by
   have:=congrArg List.tail e
   simpa [List.tail_drop] using this
  split at h
  ·rename_i hs
   rw[if_pos hs];have hf:=zNr (by omega) hs
   have hw:1<=kL d ws/\kL d ws<=4:=by
    obtain⟨f1,f2⟩:=hf
    have ha:d.op≠1->1<=at0 ws d.a/\at0 ws d.a<=4:=fun ho=>by
     have:=f1 ho
     have:=hb d.a.toNat (by omega)
     rwa [Int.toNat_of_nonneg (by omega)] at this
    have hb2:d.op=4\/d.op=6->1<=at0 ws d.b/\at0 ws d.b<=4:=fun ho=>by
     have:=f2 ho
     have:=hb d.b.toNat (by omega)
     rwa [Int.toNat_of_nonneg (by omega)] at this
    have h0:zBe d ws=0:=by
     unfold vE at hs;split at hs
     ·cases hs
     ·split at hs
      ·cases hs
      ·split at hs
       ·cases hs
       ·exact hs
    unfold zBe at h0;unfold kL
    by_cases o1:d.op=1
    ·rw[if_pos o1] at h0 ⊢
     simp[inI] at h0;omega
    ·rw[if_neg o1] at h0 ⊢
     have ha:=ha o1
     by_cases o2:d.op=2
     ·rw[if_neg (by omega),if_neg (by omega),if_neg (by simp[inI];omega)];exact ha
     ·rw[if_neg o2] at h0
      by_cases o3:d.op=3
      ·rw[if_pos o3] at h0 ⊢
       have:inI d.cells.length 1 4=true:=by
        cases hi:inI d.cells.length 1 4 with
        | true=>rfl
        | false=>rw[hi] at h0;simp at h0
       simp[inI] at this;omega
      ·rw[if_neg o3] at h0 ⊢
       by_cases o4:d.op=4
       ·rw[if_neg (by omega),if_neg (by simp[inI];omega)];exact ha
       ·rw[if_neg o4] at h0
        by_cases o6:d.op=6
        ·have hb2:=hb2 (.inr o6)
         rw[if_pos o6] at h0 ⊢;have w1:IntKind.i64.wrap (at0 ws d.a+at0 ws d.b)=at0 ws d.a+at0 ws d.b:=qL (by omega) (by omega)
         have hi:inI d.col 1 (min (at0 ws d.a) (at0 ws d.b))=true:=by
          cases hi:inI d.col 1 (min (at0 ws d.a) (at0 ws d.b)) with
          | true=>rfl
          | false=>rw[hi] at h0;simp at h0
         rw[hi,if_pos rfl] at h0;have hle:¬4<kL d ws:=fun hc=>by rw[if_pos hc] at h0;cases h0
         unfold kL at hle;rw[if_neg o1,if_neg o3,if_pos o6] at hle;simp only[inI,Bool.and_eq_true,decide_eq_true_eq] at hi;have w2:IntKind.i64.wrap (at0 ws d.a+at0 ws d.b - d.col)=at0 ws d.a+at0 ws d.b - d.col:=qL (by omega) (by omega);rw[w1,w2] at hle ⊢;omega
        ·rw[if_neg o6] at h0 ⊢
         by_cases o7:d.op=7
         ·rw[if_pos o7] at h0
          have hi:inI d.col 0 (min (at0 ws d.a) 3)=true:=by
           cases hi:inI d.col 0 (min (at0 ws d.a) 3) with
           | true=>rfl
           | false=>rw[hi] at h0;simp at h0
          simp only[inI,Bool.and_eq_true,decide_eq_true_eq] at hi;rw[if_pos (by simp[inI];omega),qL (by omega) (by omega)];omega
         ·rw[if_neg o7] at h0
          by_cases o8:8<=d.op/\d.op<=10
          ·rw[if_pos o8] at h0
           have hi:inI d.col 0 (IntKind.i64.wrap (at0 ws d.a - 1))=true:=by
            cases hi:inI d.col 0 (IntKind.i64.wrap (at0 ws d.a - 1)) with
            | true=>rfl
            | false=>rw[hi] at h0;simp at h0
           rw[qL (by omega) (by omega)] at hi;simp only[inI,Bool.and_eq_true,decide_eq_true_eq] at hi;rw[if_pos (by simp[inI];omega),qL (by omega) (by omega)];omega
          ·rw[if_neg (by simp[inI];omega)];exact ha
   have key:=zI6 hk hp r (ws++[kL d ws]) (by simpa using hr) (zL9 hk (by omega) G hx hs) (by
    intro k hk2
    by_cases hc:k<ws.length
    ·have:=hb k hc
     simp only[at0,List.getD_eq_getElem?_getD,List.getElem?_append_left (show(k:Int).toNat<ws.length by omega)] at this ⊢;exact this
    ·have:k=ws.length:=by simp at hk2;omega
     subst this
     simpa [at0,List.getD_eq_getElem?_getD] using hw) h
   refine⟨key.1,?_,key.2.2⟩;rw[key.2.1];simp;omega
  ·exact absurd h ‹_›
theorem jA {pl:List Nd} (hk:okN pl) (h:(yD pl).2=0):zX8 pl (jT pl)/\(jT pl).length=pl.length/\(∀k:Nat,k<pl.length->1<=at0 (jT pl) k/\at0 (jT pl) k<=4)/\1<=pl.length/\pl.length<=8:=by
 unfold jT;unfold yD at h ⊢;split at h
 ·cases h
 ·rename_i hl
  rw[if_neg hl];simp[inI] at hl;split at h
  ·rename_i h0
   rw[if_pos h0]
   have:=zI6 hk (by omega) pl [] rfl (zPm pl) (fun k hk=>by simp at hk) h0
   have hlen:(jO pl pl []).1.length=pl.length:=by rw[this.2.1];simp
   exact⟨this.1,hlen,fun k hk2=>this.2.2 k (by omega),by omega,by omega⟩
  ·exact absurd h ‹_›
theorem qB4 {pl:List Nd} (hk:okN pl) (h:(yD pl).2=0) {a:Int} (h0:0<=a) (h1:a<pl.length):1<=at0 (jT pl) a/\at0 (jT pl) a<=4:=by
 have:=(jA hk h).2.2.1 a.toNat (by omega)
 rwa [Int.toNat_of_nonneg h0] at this
theorem zK4 {pl:List Nd} {a:Int} (h0:0<=a) (h1:a<pl.length):∃d,pl[a.toNat]? = some d/\(nds false 0 pl)[a.toNat]? = some (d.v false 0):=by
 have:a.toNat<pl.length:=by omega
 exact⟨pl[a.toNat],by simp[this],by simp[nds,this]⟩
def xH (pl:List Nd) (a:Int):Nd:=(pl[a.toNat]?).getD ⟨0,0,0,0,0,0,[]⟩
theorem xZ {pl:List Nd} {a:Int} {d:Nd} (h:pl[a.toNat]? = some d):xH pl a=d:=by simp[xH,h]
def zAm (pl:List Nd) (a:Int):Int:=if(yD pl).2=0 then(if inI a 0 ((pl.length:Int) - 1)=true then 0 else 3) else(yD pl).2
theorem jR {pl:List Nd} {a:Int} (h:zAm pl a=0):(yD pl).2=0/\0<=a/\a<pl.length:=by
 unfold zAm at h;split at h
 ·split at h
  ·rename_i h1 h2;simp[inI] at h2;exact⟨h1,by omega,by omega⟩
  ·cases h
 ·exact absurd h ‹_›
theorem zVw (pl:List Nd) (a:Int) (hp:pl.length<2000000) (hk:okN pl):oc.call 51 [.lst false 0 (nds false 0 pl),.int .i64 a]=some (.tup [.lst true 1 (ints (jT pl)),.int .i64 (zAm pl a)],[]):=by
 refine qA rfl cd51 rfl rfl rfl (by simp;rfl) (by simp;rfl) ?_;have hw:IntKind.i64.wrap ((pl.length:Int) - 1)=pl.length - 1:=qL (by omega) (by omega);refine wa_ (zB (w_ (aN (h:=W3 (h:=nE (h:=zA (wa_ (zB (wM (h:=w_ (ca (hc:=zP8 pl hp hk) (h:=wM (h:=w_ (ex (h:=?_)))))))))))))));refine w_ (ex (h:=W3 (h:=W3 (h:=nE (h:=zA (wa_ (wa_ (zB (wM (h:=w_ (bE (h:=wM (h:=?_)))))))))))));refine gw_ (h1:=?_) (h2:=?_)
 rotate_right 1
 focus
  intro c1;first|exact dn c1|(
   have d1:=c1;try simp at d1
   refine go_ (h:=go_ (h:=go_ (h:=go_ (h:=go_ (h:=go_ (h:=?_)))))))
 rotate_right 1
 focus
  intro c1;first|exact dn c1|(
   have d1:=c1;try simp at d1
   refine g_ (h:=wM (h:=g_ (h:=wM (h:=g_ (h:=w_ (ca (hc:=zJj _ _ (by simp;omega)) (h:=g_ (h:=w_ (b_ (h:=g_ (h:=w_ (ca (hc:=zFp _ _ _) (h:=g_ (h:=w_ (u_ (h:=?_)))))))))))))))))
 all_goals
  refine w_ (pk (h:=nE (h:=?_)))
 all_goals first
 | (
  refine zA ?_;refine c_ (h1:=?_) (h2:=?_)
  rotate_right 1
  focus
   intro c2;first|exact dn c2|(
    have d2:=c2;try simp at d2
    refine zC ?_)
  rotate_right 1
  focus
   intro c2;first|exact dn c2|(
    have d2:=c2;try simp at d2
    refine zB (W3 (h:=nE (h:=?_)))))
 all_goals first
 | (
  refine zA ?_;refine wa_ (zB (wM (h:=wM (h:=W3 (h:=W3 (h:=nE (h:=zA (zF ?_)))))))))
 all_goals (refine qX (hr:=(zL rfl (zL rfl zM))) (h:=?_);(focus (clear hk;simp[jT,zAm,hw] at * <;> grind)))
theorem zL8 (pl:List Nd) (a:Int) (hp:pl.length<2000000) (hk:okN pl):oc.call 39 [.lst false 0 (nds false 0 pl),.int .i64 a]=some (.int .i64 (zAm pl a),[]):=by
 refine qA rfl cd39 rfl rfl rfl (by simp;rfl) (by simp;rfl) ?_;have hw:IntKind.i64.wrap ((pl.length:Int) - 1)=pl.length - 1:=qL (by omega) (by omega);refine wa_ (zB (W3 (h:=nE (h:=zA (wa_ (wa_ (zB (wM (h:=w_ (ca (hc:=zOp pl hp hk) (h:=W3 (h:=nE (h:=?_)))))))))))));refine zA (wa_ (zB (wM (h:=w_ (bE (h:=nE (h:=zA ?_)))))));refine c_ (h1:=?_) (h2:=?_)
 rotate_right 1
 focus
  intro c1;first|exact dn c1|(
   have d1:=c1;try simp at d1
   refine zC ?_)
 rotate_right 1
 focus
  intro c1;first|exact dn c1|(
   have d1:=c1;try simp at d1
   refine wa_ (zB (wM (h:=W3 (h:=nE (h:=zA (zF ?_)))))))
 all_goals first|refine zK ?_|(
  refine zA ?_;refine wa_ (wa_ (zB (wM (h:=wM (h:=w_ (le (h:=w_ (b_ (h:=w_ (ca (hc:=xW _ _ _) (h:=w_ (u_ (h:=nE (h:=zA ?_))))))))))))));refine c_ (h1:=?_) (h2:=?_)
  rotate_right 1
  focus
   intro c2;first|exact dn c2|(
    have d2:=c2;try simp at d2
    refine zC ?_)
  rotate_right 1
  focus
   intro c2;first|exact dn c2|(
    have d2:=c2;try simp at d2
    refine wa_ (zB (W3 (h:=nE (h:=zA (zF ?_))))))
  all_goals first|refine zK ?_|(
   refine zA ?_;refine wa_ (zB (W3 (h:=nE (h:=zA (zF ?_)))))))
 all_goals (refine qX (hr:=(zL rfl zM)) (h:=?_);(focus (clear hk;simp[zAm,hw] at * <;> grind)))
def zEk (pl:List Nd) (a:Int):Int:=if(xH pl a).op=1\/6<=(xH pl a).op/\(xH pl a).op<=10 then(xH pl a).col else at0 (jT pl) (xH pl a).a
theorem zUp {pl:List Nd} (hk:okN pl) (h:(yD pl).2=0) {a:Int} {d:Nd} (h0:0<=a) (hd:pl[a.toNat]? = some d):(1<=d.op/\d.op<=12)/\(d.op≠1->0<=d.a/\d.a<a)/\(d.op=4\/d.op=6->0<=d.b/\d.b<a):=by
 have hw:=qCc h a.toNat d hd
 have:∀(r:List Nd) (ws:List Int),r=pl.drop ws.length->(jO pl r ws).2=0->∀(n:Nat) d,ws.length<=n->pl[n]? = some d->1<=d.op/\d.op<=12:=by
  intro r
  induction r with
  | nil =>
   intro ws e _ n d hn hd
   have:pl.length<=ws.length:=by have:=congrArg List.length e;simp at this;omega
   have:=(List.getElem?_eq_some_iff.mp hd).1
   omega
  | cons x r ih =>
   intro ws e h n d hn hd;unfold jO at h
   have hx:pl[ws.length]? = some x:=by
    have:=congrArg (fun l=>l[0]?) e
    simpa using this.symm
   have hr:r=pl.drop (ws.length+1):=by
    have:=congrArg List.tail e
    simpa [List.tail_drop] using this
   split at h
   ·rename_i hs
    by_cases hc:n=ws.length
    ·subst hc
     rw[hx] at hd;cases hd;unfold vE at hs;split at hs
     ·cases hs
     ·rename_i h1
      simp[inI] at h1;omega
    ·exact ih (ws++[kL x ws]) (by simpa using hr) h n d (by simp;omega) hd
   ·exact absurd h ‹_›
 have h2:(jO pl pl []).2=0:=by
  unfold yD at h;split at h
  ·cases h
  ·split at h
   ·exact ‹_›
   ·exact absurd h ‹_›
 have h3:=this pl [] rfl h2 a.toNat d (by simp) hd;obtain⟨f1,f2⟩:=hw;exact⟨h3,fun ho=>by have:=f1 ho;omega,fun ho=>by have:=f2 ho;omega⟩
theorem qMn {pl:List Nd} (hk:okN pl) (h:(yD pl).2=0) {a:Int} {d:Nd} (h0:0<=a) (hd:pl[a.toNat]? = some d) (ho:d.op=1):at0 (jT pl) a=d.col:=by
 have G:=(jA hk h).1;have hl:=(jA hk h).2.1;have hlt:=(List.getElem?_eq_some_iff.mp hd).1;obtain⟨e,h1,h2,_⟩:=G a.toNat (by omega);rw[hd] at h1;cases h1;rw[Int.toNat_of_nonneg h0] at h2;rw[h2,kL,if_pos ho]
theorem qBn (pl:List Nd) (a:Int) (hp:pl.length<2000000) (hk:okN pl) (hc:zAm pl a=0):oc.call 57 [.lst false 0 (nds false 0 pl),.lst false 0 (ints (jT pl)),.int .i64 a]=some (.int .i64 (zEk pl a),[]):=by
 refine qA rfl cd57 rfl rfl rfl (by simp;rfl) (by simp;rfl) ?_;obtain⟨k1,k2,k3⟩:=jR hc;obtain⟨d,hd,g1⟩:=zK4 k2 k3;obtain⟨⟨o1,o2⟩,o3,o4⟩:=zUp hk k1 k2 hd;have hlw:=(jA hk k1).2.1;have g2:=yC (w:=jT pl) k2 (by omega);refine wa_ (zB (W3 (h:=nE (h:=zA (wa_ (zB (wM (h:=wM (h:=w_ (x_ (h:=w_ (l_ (h:=w_ (al (h:=?_)))))))))))))));refine w0 (s_ (h:=nE (h:=zA (zG (wa_ (zB (w_ (f_ (h:=w_ (l_ (h:=w_ (bE (h:=wM (h:=?_))))))))))))));refine gw_ (h1:=?_) (h2:=?_)
 rotate_right 1
 focus
  intro c1;first|exact dn c1|(
   have d1:=c1;try simp at d1
   refine go_ (h:=go_ (h:=go_ (h:=?_))))
 rotate_right 1
 focus
  intro c1;first|exact dn c1|(
   have d1:=c1;try simp at d1
   refine g_ (h:=w_ (f_ (h:=g_ (h:=w_ (l_ (h:=g_ (h:=w_ (ca (hc:=zL6 _) (h:=?_))))))))))
 all_goals
  refine w_ (pk (h:=W3 (h:=nE (h:=?_))))
 all_goals first
 | (
  refine zA ?_;refine c_ (h1:=?_) (h2:=?_)
  rotate_right 1
  focus
   intro c2;first|exact dn c2|(
    have d2:=c2;try simp at d2
    refine wa_ (zB (w_ (f_ (h:=w_ (l_ (h:=w_ (bE (h:=W3 (h:=nE (h:=zA ?_))))))))));refine c_ (h1:=?_) (h2:=?_)
    rotate_right 1
    focus
     intro c3;first|exact dn c3|(
      have d3:=c3;try simp at d3
      have g3:=yC (w:=jT pl) (o3 (by omega)).1 (by have:=o3 (by omega);omega);refine wa_ (zB (wM (h:=w_ (f_ (h:=w_ (l_ (h:=w_ (x_ (h:=w_ (l_ (h:=W3 (h:=nE (h:=zA (zF ?_)))))))))))))))
    rotate_right 1
    focus
     intro c3;first|exact dn c3|(
      have d3:=c3;try simp at d3
      refine wa_ (zB (wM (h:=wM (h:=w_ (x_ (h:=w_ (l_ (h:=W3 (h:=nE (h:=zA (zF ?_)))))))))))))
  rotate_right 1
  focus
   intro c2;first|exact dn c2|(
    have d2:=c2;try simp at d2
    refine wa_ (zB (w_ (f_ (h:=w_ (l_ (h:=W3 (h:=nE (h:=zA (zF ?_)))))))))))
 all_goals refine zX ?_
 all_goals (refine qX (hr:=(zL rfl zM)) (h:=?_);(focus (have hwi:=qMn hk k1 k2 hd;clear hk;simp only[zEk,xZ hd];simp[inI] at * <;> grind)))
theorem qL5 (pl:List Nd) (a:Int) (hp:pl.length<2000000) (hk:okN pl) (hc:zAm pl a=0):oc.call 223 [.lst false 0 (nds false 0 pl),.int .i64 a]=some (.int .i64 (zEk pl a),[]):=by
 refine qA rfl cd223 rfl rfl rfl (by simp;rfl) (by simp;rfl) ?_;obtain⟨k1,k2,k3⟩:=jR hc;obtain⟨d,hd,g1⟩:=zK4 k2 k3;obtain⟨⟨o1,o2⟩,o3,o4⟩:=zUp hk k1 k2 hd;have hlw:=(jA hk k1).2.1;refine wa_ (zB (W3 (h:=nE (h:=zA (wa_ (zB (wM (h:=wM (h:=w_ (x_ (h:=w_ (l_ (h:=w_ (al (h:=?_)))))))))))))));refine w0 (s_ (h:=nE (h:=zA (wa_ (wa_ (zB (w_ (f_ (h:=w_ (l_ (h:=nE (h:=zA (zG (wa_ ?_))))))))))))));refine wa_ (zB (w_ (bE (h:=W3 (h:=nE (h:=zA ?_))))));refine c_ (h1:=?_) (h2:=?_)
 rotate_right 1
 focus
  intro c1;first|exact dn c1|(
   have d1:=c1;try simp at d1
   refine wa_ (zB (w_ (bE (h:=W3 (h:=nE (h:=zA ?_))))));refine c_ (h1:=?_) (h2:=?_)
   rotate_right 1
   focus
    intro c2;first|exact dn c2|(
     have d2:=c2;try simp at d2
     refine wa_ (zB (w_ (bE (h:=W3 (h:=nE (h:=zA ?_))))));refine c_ (h1:=?_) (h2:=?_)
     rotate_right 1
     focus
      intro c3;first|exact dn c3|(
       have d3:=c3;try simp at d3
       refine wa_ (zB (w_ (bE (h:=W3 (h:=nE (h:=zA ?_))))));refine c_ (h1:=?_) (h2:=?_)
       rotate_right 1
       focus
        intro c4;first|exact dn c4|(
         have d4:=c4;try simp at d4
         refine wa_ (zB (w_ (bE (h:=W3 (h:=nE (h:=zA ?_))))));refine c_ (h1:=?_) (h2:=?_)
         rotate_right 1
         focus
          intro c5;first|exact dn c5|(
           have d5:=c5;try simp at d5
           refine zB (w_ (bE (h:=W3 (h:=nE (h:=?_))))))
         rotate_right 1
         focus
          intro c5;first|exact dn c5|(
           have d5:=c5;try simp at d5
           refine zC ?_))
       rotate_right 1
       focus
        intro c4;first|exact dn c4|(
         have d4:=c4;try simp at d4
         refine zC ?_))
     rotate_right 1
     focus
      intro c3;first|exact dn c3|(
       have d3:=c3;try simp at d3
       refine zC ?_))
   rotate_right 1
   focus
    intro c2;first|exact dn c2|(
     have d2:=c2;try simp at d2
     refine zC ?_))
 rotate_right 1
 focus
  intro c1;first|exact dn c1|(
   have d1:=c1;try simp at d1
   refine zC ?_)
 all_goals first
 | (
  refine zA ?_;refine c_ (h1:=?_) (h2:=?_)
  rotate_right 1
  focus
   intro c6;first|exact dn c6|(
    have d6:=c6;try simp at d6
    refine zC ?_)
  rotate_right 1
  focus
   intro c6;first|exact dn c6|(
    have d6:=c6;try simp at d6
    refine wa_ (zB (w_ (f_ (h:=w_ (l_ (h:=W3 (h:=nE (h:=zA (zF ?_)))))))))))
 all_goals first|refine zI ?_|refine zX ?_
 all_goals first|refine zK ?_|(
  refine zA ?_;refine wa_ (zB (wM (h:=w_ (f_ (h:=w_ (l_ (h:=w_ (ca (hc:=xR pl (jT pl) hp (jA hk k1).1 _ (o3 (by omega)).1 (by have:=o3 (by omega);omega)) (h:=W3 (h:=nE (h:=zA (zF ?_)))))))))))))
 all_goals (refine qX (hr:=(zL rfl zM)) (h:=?_);(focus (clear hk;simp only[zEk,xZ hd];simp at * <;> grind)))
end Go.Proofs.YtbcgenkegnmkhaaGreat.Ev
namespace Go.Proofs.YtbcgenkegnmkhaaGreat.Ev
open Go
set_option maxRecDepth 100000
set_option linter.unusedSimpArgs false
set_option linter.unusedVariables false
set_option maxHeartbeats 2000000
theorem zL4 (pl:List Nd):∀(r:List Nd) (ws:List Int),(jO pl r ws).1.take ws.length=ws
 | [],ws=>by simp[jO]
 | d::r,ws=>by
  unfold jO;split
  ·have:=zL4 pl r (ws++[kL d ws])
   have h2:=congrArg (List.take ws.length) this;rw[List.take_take,List.length_append,Nat.min_eq_left (by omega)] at h2;rw[h2];simp
  ·simp
theorem zIn {pl:List Nd}:∀(r:List Nd) (ws:List Int),r=pl.drop ws.length->(jO pl r ws).2=0->∀(n:Nat) d,ws.length<=n->pl[n]? = some d->vE pl d ((jO pl r ws).1.take n)=0
 | [],ws,e,_,n,d,hn,hd=>by
  have:pl.length<=ws.length:=by have:=congrArg List.length e;simp at this;omega
  have:=(List.getElem?_eq_some_iff.mp hd).1
  omega
 | x::r,ws,e,h,n,d,hn,hd=>by
  have hx:pl[ws.length]? = some x:=by
   have:=congrArg (fun l=>l[0]?) e
   simpa using this.symm
  have hr:r=pl.drop (ws.length+1):=by
   have:=congrArg List.tail e
   simpa [List.tail_drop] using this
  by_cases hs:vE pl x ws=0
  ·have e2:jO pl (x::r) ws=jO pl r (ws++[kL x ws]):=by rw[jO,if_pos hs]
   rw[e2] at h ⊢
   by_cases hc:n=ws.length
   ·subst hc
    rw[hx] at hd;cases hd;have h1:=zL4 pl r (ws++[kL x ws]);have h2:=congrArg (List.take ws.length) h1;rw[List.take_take,List.length_append,Nat.min_eq_left (by omega)] at h2;rw[h2];simpa using hs
   ·exact zIn r (ws++[kL x ws]) (by simpa using hr) h n d (by simp;omega) hd
  ·rw[jO,if_neg hs] at h
   exact absurd h hs
theorem zW4 {pl:List Nd} (h:(yD pl).2=0) {n:Nat} {d:Nd} (hd:pl[n]? = some d):vE pl d ((jT pl).take n)=0:=by
 unfold jT;unfold yD at h ⊢;split at h
 ·cases h
 ·rename_i hl
  rw[if_neg hl];split at h
  ·rename_i h0
   rw[if_pos h0];exact zIn pl [] rfl h0 n d (by simp) hd
  ·exact absurd h ‹_›
theorem zSa {pl:List Nd} {d:Nd} {ws:List Int} (hs:vE pl d ws=0):(1<=d.op/\d.op<=12)/\d=zB0 d/\(qB d).all (okR pl ws.length)=true/\zBe d ws=0:=by
 unfold vE at hs;split at hs
 ·cases hs
 ·rename_i h1
  simp[inI] at h1;split at hs
  ·cases hs
  ·rename_i h2
   split at hs
   ·cases hs
   ·rename_i h3
    exact⟨by omega,by simpa using h2,by simpa using h3,hs⟩
theorem qAh {pl:List Nd} (hk:okN pl) {a:Int} (hc:zAm pl a=0):0<=zEk pl a/\zEk pl a<=4:=by
 obtain⟨k1,k2,k3⟩:=jR hc;obtain⟨d,hd,_⟩:=zK4 k2 k3;obtain⟨⟨o1,o2⟩,o3,o4⟩:=zUp hk k1 k2 hd;have hl:=(jA hk k1);have hf:=(zSa (zW4 k1 hd)).2.2.2
 have hA:d.op≠1->1<=at0 (jT pl) d.a/\at0 (jT pl) d.a<=4/\at0 ((jT pl).take a.toNat) d.a=at0 (jT pl) d.a:=fun ho=>by
  have:=o3 ho
  have:=qB4 hk k1 (a:=d.a) (by omega) (by omega)
  exact⟨this.1,this.2,zFk (by omega)⟩
 have hB:d.op=4\/d.op=6->1<=at0 (jT pl) d.b/\at0 (jT pl) d.b<=4/\at0 ((jT pl).take a.toNat) d.b=at0 (jT pl) d.b:=fun ho=>by
  have:=o4 ho
  have:=qB4 hk k1 (a:=d.b) (by omega) (by omega)
  exact⟨this.1,this.2,zFk (by omega)⟩
 simp only[zEk,xZ hd];unfold zBe at hf
 by_cases c1:d.op=1
 ·rw[if_pos c1] at hf
  rw[if_pos (.inl c1)];simp[inI] at hf;omega
 ·have hA:=hA c1
  rw[if_neg c1] at hf
  by_cases c2:d.op=2
  ·rw[if_neg (by omega)];omega
  ·rw[if_neg c2] at hf
   by_cases c3:d.op=3
   ·rw[if_neg (by omega)];omega
   ·rw[if_neg c3] at hf
    by_cases c4:d.op=4
    ·rw[if_neg (by omega)];omega
    ·rw[if_neg c4] at hf
     by_cases c6:d.op=6
     ·have hB:=hB (.inr c6)
      rw[if_pos c6] at hf;rw[if_pos (by omega)];rw[hA.2.2,hB.2.2] at hf
      have hi:inI d.col 1 (min (at0 (jT pl) d.a) (at0 (jT pl) d.b))=true:=by
       cases hi:inI d.col 1 (min (at0 (jT pl) d.a) (at0 (jT pl) d.b)) with
       | true=>rfl
       | false=>rw[hi] at hf;simp at hf
      simp only[inI,Bool.and_eq_true,decide_eq_true_eq] at hi;omega
     ·rw[if_neg c6] at hf
      by_cases c7:d.op=7
      ·rw[if_pos c7,hA.2.2] at hf
       rw[if_pos (by omega)]
       have hi:inI d.col 0 (min (at0 (jT pl) d.a) 3)=true:=by
        cases hi:inI d.col 0 (min (at0 (jT pl) d.a) 3) with
        | true=>rfl
        | false=>rw[hi] at hf;simp at hf
       simp only[inI,Bool.and_eq_true,decide_eq_true_eq] at hi;omega
      ·rw[if_neg c7] at hf
       by_cases c8:8<=d.op/\d.op<=10
       ·rw[if_pos c8,hA.2.2] at hf
        rw[if_pos (by omega)]
        have hi:inI d.col 0 (IntKind.i64.wrap (at0 (jT pl) d.a - 1))=true:=by
         cases hi:inI d.col 0 (IntKind.i64.wrap (at0 (jT pl) d.a - 1)) with
         | true=>rfl
         | false=>rw[hi] at hf;simp at hf
        rw[qL (by omega) (by omega)] at hi;simp only[inI,Bool.and_eq_true,decide_eq_true_eq] at hi;omega
       ·rw[if_neg (by omega)];omega
def zLt (d:Nd):Bool:=decide (1<=d.op/\d.op<=5)
theorem qJf (a:Int):oc.call 182 [.int .i64 a]=some (.bool (inI a 1 5||decide (a=12)),[]):=by
 refine qA rfl cd182 rfl rfl rfl (by simp;rfl) (by simp;rfl) ?_;refine wa_ (zB (W3 (h:=nE (h:=zA (wa_ (wa_ (zB (wM (h:=nE (h:=zA (zG ?_)))))))))));refine wa_ (wa_ (zB (w_ (bE (h:=W3 (h:=nE (h:=zA ?_)))))));refine c_ (h1:=?_) (h2:=?_)
 rotate_right 1
 focus
  intro c1;first|exact dn c1|(
   have d1:=c1;try simp at d1
   refine wa_ (zB (w_ (bE (h:=W3 (h:=nE (h:=zA ?_))))));refine c_ (h1:=?_) (h2:=?_)
   rotate_right 1
   focus
    intro c2;first|exact dn c2|(
     have d2:=c2;try simp at d2
     refine wa_ (zB (w_ (bE (h:=W3 (h:=nE (h:=zA ?_))))));refine c_ (h1:=?_) (h2:=?_)
     rotate_right 1
     focus
      intro c3;first|exact dn c3|(
       have d3:=c3;try simp at d3
       refine wa_ (zB (w_ (bE (h:=W3 (h:=nE (h:=zA ?_))))));refine c_ (h1:=?_) (h2:=?_)
       rotate_right 1
       focus
        intro c4;first|exact dn c4|(
         have d4:=c4;try simp at d4
         refine wa_ (zB (w_ (bE (h:=W3 (h:=nE (h:=zA ?_))))));refine c_ (h1:=?_) (h2:=?_)
         rotate_right 1
         focus
          intro c5;first|exact dn c5|(
           have d5:=c5;try simp at d5
           refine zB (w_ (bE (h:=W3 (h:=nE (h:=?_))))))
         rotate_right 1
         focus
          intro c5;first|exact dn c5|(
           have d5:=c5;try simp at d5
           refine zC ?_))
       rotate_right 1
       focus
        intro c4;first|exact dn c4|(
         have d4:=c4;try simp at d4
         refine zC ?_))
     rotate_right 1
     focus
      intro c3;first|exact dn c3|(
       have d3:=c3;try simp at d3
       refine zC ?_))
   rotate_right 1
   focus
    intro c2;first|exact dn c2|(
     have d2:=c2;try simp at d2
     refine zC ?_))
 rotate_right 1
 focus
  intro c1;first|exact dn c1|(
   have d1:=c1;try simp at d1
   refine zC ?_)
 all_goals first
 | (
  refine zA ?_;refine c_ (h1:=?_) (h2:=?_)
  rotate_right 1
  focus
   intro c6;first|exact dn c6|(
    have d6:=c6;try simp at d6
    refine zC ?_)
  rotate_right 1
  focus
   intro c6;first|exact dn c6|(
    have d6:=c6;try simp at d6
    refine wa_ (zB (W3 (h:=nE (h:=zA (zF ?_)))))))
 all_goals first|refine zI ?_|refine zX ?_
 all_goals first|refine zK ?_|(
  refine zA ?_;refine wa_ (zB (W3 (h:=nE (h:=zA (zF ?_))))))
 all_goals (refine qX (hr:=(zL rfl zM)) (h:=?_);(focus (simp[inI];omega)))
theorem qJ1 (a:Int):oc.call 250 [.int .i64 a]=some (.bool (inI a 1 5||decide (a=12)),[]):=by
 refine qA rfl cd250 rfl rfl rfl (by simp;rfl) (by simp;rfl) ?_;refine wa_ (zB (W3 (h:=nE (h:=zA (wa_ (zB (wM (h:=w_ (ca (hc:=xW _ _ _) (h:=wM (h:=?_)))))))))));refine gw_ (h1:=?_) (h2:=?_)
 rotate_right 1
 focus
  intro c1;refine go_ (h:=go_ (h:=?_))
 rotate_right 1
 focus
  intro c1;refine g_ (h:=wM (h:=g_ (h:=w_ (bE (h:=?_)))))
 all_goals
  refine w_ (pk (h:=W3 (h:=nE (h:=?_))))
 all_goals first
 | (
  refine zA ?_;refine zF ?_)
 all_goals (refine qX (hr:=(zL rfl zM)) (h:=?_);(focus (simp[inI] at * <;> grind)))
theorem zZi (d:Nd):oc.call 119 [d.v false 0]=some (.bool (zLt d),[]):=by
 refine qA rfl cd119 rfl rfl rfl (by simp;rfl) (by simp;rfl) ?_;refine wa_ (zB (w_ (bx (h:=W3 (h:=nE (h:=zA (wa_ (zB (w_ (f_ (h:=w_ (l_ (h:=w_ (ca (hc:=qJf _) (h:=wM (h:=?_))))))))))))))));refine gw_ (h1:=?_) (h2:=?_)
 rotate_right 1
 focus
  intro c1;refine go_ (h:=go_ (h:=go_ (h:=?_)))
 rotate_right 1
 focus
  intro c1;refine g_ (h:=w_ (f_ (h:=g_ (h:=w_ (l_ (h:=g_ (h:=w_ (bE (h:=?_)))))))))
 all_goals
  refine w_ (pk (h:=W3 (h:=nE (h:=?_))))
 all_goals first
 | (
  refine zA ?_;refine zF ?_)
 all_goals (refine qX (hr:=(zL rfl zM)) (h:=?_);(focus (simp[zLt,inI] at * <;> grind)))
theorem zY1 (d:Nd):oc.call 221 [d.v false 0]=some (.bool (zLt d),[]):=by
 refine qA rfl cd221 rfl rfl rfl (by simp;rfl) (by simp;rfl) ?_;refine wa_ (zB (w_ (bx (h:=W3 (h:=nE (h:=zA (wa_ (zB (w_ (f_ (h:=w_ (l_ (h:=w_ (ca (hc:=qJ1 _) (h:=wM (h:=?_))))))))))))))));refine gw_ (h1:=?_) (h2:=?_)
 rotate_right 1
 focus
  intro c1;refine go_ (h:=go_ (h:=go_ (h:=?_)))
 rotate_right 1
 focus
  intro c1;refine g_ (h:=w_ (f_ (h:=g_ (h:=w_ (l_ (h:=g_ (h:=w_ (bE (h:=?_)))))))))
 all_goals
  refine w_ (pk (h:=W3 (h:=nE (h:=?_))))
 all_goals first
 | (
  refine zA ?_;refine zF ?_)
 all_goals (refine qX (hr:=(zL rfl zM)) (h:=?_);(focus (simp[zLt,inI] at * <;> grind)))
def jU (pl:List Nd) (a m self:Int):Int:=if zAm pl a=0 then(if inI m 1 3=true/\inI self 0 (m - 1)=true then 0 else 3) else zAm pl a
theorem jJ {pl:List Nd} {a m self:Int} (h:jU pl a m self=0):zAm pl a=0/\1<=m/\m<=3/\0<=self/\self<m:=by
 unfold jU at h;split at h
 ·split at h
  ·rename_i h1 h2;simp[inI] at h2;exact⟨h1,by omega⟩
  ·cases h
 ·exact absurd h ‹_›
theorem zPo (pl:List Nd) (a m self:Int) (hp:pl.length<2000000) (hk:okN pl):oc.call 43 [.lst false 0 (nds false 0 pl),.int .i64 a,.int .i64 m,.int .i64 self]=some (.tup [.lst true 1 (ints (jT pl)),.int .i64 (jU pl a m self)],[]):=by
 refine qA rfl cd43 rfl rfl rfl (by simp;rfl) (by simp;rfl) ?_;have hw:1<=m->m<=3->IntKind.i64.wrap (m - 1)=m - 1:=(fun h1 h2=>qL (by omega) (by omega));refine wa_ (zB (w_ (aN (h:=W3 (h:=nE (h:=zA (wa_ (zB (wM (h:=wM (h:=w_ (ca (hc:=zVw pl a hp hk) (h:=wM (h:=?_))))))))))))));refine w_ (ex (h:=w_ (ex (h:=W3 (h:=W3 (h:=nE (h:=zA (wa_ (wa_ (zB (wM (h:=w_ (bE (h:=wM (h:=?_)))))))))))))));refine gw_ (h1:=?_) (h2:=?_)
 rotate_right 1
 focus
  intro c1;first|exact dn c1|(
   have d1:=c1;try simp at d1
   refine go_ (h:=go_ (h:=go_ (h:=go_ (h:=?_)))))
 rotate_right 1
 focus
  intro c1;first|exact dn c1|(
   have d1:=c1;try simp at d1
   refine g_ (h:=wM (h:=g_ (h:=w_ (ca (hc:=zFp _ _ _) (h:=g_ (h:=w_ (u_ (h:=g_ (h:=wM (h:=?_)))))))))))
 all_goals
  first
  | (
   skip
   refine goN (h:=goN (h:=goN (h:=goN (h:=goN (h:=?_))))))
  | (
   refine gw_ (h1:=?_) (h2:=?_)
   rotate_right 1
   focus
    intro c2;first|exact dn c2|(
     have d2:=c2;try simp at d2
     refine go_ (h:=go_ (h:=go_ (h:=go_ (h:=go_ (h:=?_))))))
   rotate_right 1
   focus
    intro c2;first|exact dn c2|(
     have d2:=c2;try simp at d2
     refine g_ (h:=wM (h:=g_ (h:=wM (h:=g_ (h:=w_ (b_ (h:=g_ (h:=w_ (ca (hc:=zFp _ _ _) (h:=g_ (h:=w_ (u_ (h:=?_)))))))))))))))
  all_goals
   first
   | (
    skip
    refine g_ (h:=w_ (pk (h:=?_))))
   | (
    skip
    refine go_ (h:=?_))
   all_goals
    refine w_ (pk (h:=nE (h:=?_)))
 all_goals first
 | (
  refine zA ?_;refine c_ (h1:=?_) (h2:=?_)
  rotate_right 1
  focus
   intro c3;first|exact dn c3|(
    have d3:=c3;try simp at d3
    refine zC ?_)
  rotate_right 1
  focus
   intro c3;first|exact dn c3|(
    have d3:=c3;try simp at d3
    refine zB (W3 (h:=nE (h:=?_)))))
 all_goals first
 | (
  refine zA ?_;refine wa_ (zB (wM (h:=wM (h:=W3 (h:=W3 (h:=nE (h:=zA (zF ?_)))))))))
 all_goals (refine qX (hr:=(zL rfl (zL rfl zM))) (h:=?_);(focus (clear hk;simp[jU,inI] at * <;> grind)))
theorem zXm (pl:List Nd) (a m self:Int) (hp:pl.length<2000000) (hk:okN pl):oc.call 47 [.lst false 0 (nds false 0 pl),.int .i64 a,.int .i64 m,.int .i64 self]=some (.int .i64 (jU pl a m self),[]):=by
 refine qA rfl cd47 rfl rfl rfl (by simp;rfl) (by simp;rfl) ?_;have hw:1<=m->m<=3->IntKind.i64.wrap (m - 1)=m - 1:=(fun h1 h2=>qL (by omega) (by omega));refine wa_ (zB (W3 (h:=nE (h:=zA (wa_ (wa_ (zB (wM (h:=wM (h:=w_ (ca (hc:=zL8 pl a hp hk) (h:=W3 (h:=?_)))))))))))));refine nE (h:=zA (wa_ (zB (wM (h:=w_ (bE (h:=nE (h:=zA ?_))))))));refine c_ (h1:=?_) (h2:=?_)
 rotate_right 1
 focus
  intro c1;first|exact dn c1|(
   have d1:=c1;try simp at d1
   refine zC ?_)
 rotate_right 1
 focus
  intro c1;first|exact dn c1|(
   have d1:=c1;try simp at d1
   refine wa_ (zB (wM (h:=W3 (h:=nE (h:=zA (zF ?_)))))))
 all_goals first|refine zK ?_|(
  refine zA ?_;refine wa_ (wa_ (zB (wM (h:=w_ (ca (hc:=xW _ _ _) (h:=w_ (u_ (h:=wM (h:=?_)))))))));refine gw_ (h1:=?_) (h2:=?_)
  rotate_right 1
  focus
   intro c2;first|exact dn c2|(
    have d2:=c2;try simp at d2
    refine go_ (h:=go_ (h:=go_ (h:=go_ (h:=go_ (h:=?_))))))
  rotate_right 1
  focus
   intro c2;first|exact dn c2|(
    have d2:=c2;try simp at d2
    refine g_ (h:=wM (h:=g_ (h:=wM (h:=g_ (h:=w_ (b_ (h:=g_ (h:=w_ (ca (hc:=xW _ _ _) (h:=g_ (h:=w_ (u_ (h:=?_))))))))))))))
  all_goals
   refine w_ (pk (h:=nE (h:=?_)))
  all_goals first
  | (
   refine zA ?_;refine c_ (h1:=?_) (h2:=?_)
   rotate_right 1
   focus
    intro c3;first|exact dn c3|(
     have d3:=c3;try simp at d3
     refine zC ?_)
   rotate_right 1
   focus
    intro c3;first|exact dn c3|(
     have d3:=c3;try simp at d3
     refine wa_ (zB (W3 (h:=nE (h:=zA (zF ?_)))))))
  all_goals first|refine zK ?_|(
   refine zA ?_;refine wa_ (zB (W3 (h:=nE (h:=zA (zF ?_)))))))
 all_goals (refine qX (hr:=(zL rfl zM)) (h:=?_);(focus (clear hk;simp[jU,inI] at * <;> grind)))
def zOm (pl:List Nd) (a m self:Int) (r:List Int):Int:=if zLt (xH pl a)=true then self else zH6 m r (zEk pl a)
theorem zO7 {pl:List Nd} {a m self:Int} {r:List Int} (h:jU pl a m self=0):0<=zOm pl a m self r/\zOm pl a m self r<m:=by
 obtain⟨_,h1,h2,h3,h4⟩:=jJ h;unfold zOm;split
 ·omega
 ·exact zUh (by omega)
theorem qN8 (pl:List Nd) (a m self:Int) (r:List Int) (hp:pl.length<2000000) (hk:okN pl) (hc:jU pl a m self=0) (hr:r.length<2000000) (hl:zEk pl a<=r.length):oc.call 58 [.lst false 0 (nds false 0 pl),.lst false 0 (ints (jT pl)),.int .i64 a,.int .i64 m,.int .i64 self,.lst false 0 (ints r)]=some (.int .i64 (zOm pl a m self r),[]):=by
 refine qA rfl cd58 rfl rfl rfl (by simp;rfl) (by simp;rfl) ?_;obtain⟨k0,k4,k5,k6,k7⟩:=jJ hc;obtain⟨k1,k2,k3⟩:=jR k0;obtain⟨d,hd,g1⟩:=zK4 k2 k3;have hkey:=qAh hk k0;refine wa_ (zB (W3 (h:=nE (h:=zA (wa_ (wa_ (zB (wM (h:=wM (h:=w_ (x_ (h:=w_ (l_ (h:=?_))))))))))))));refine w_ (ca (hc:=zZi d) (h:=nE (h:=zA ?_)));refine c_ (h1:=?_) (h2:=?_)
 rotate_right 1
 focus
  intro c1;first|exact dn c1|(
   have d1:=c1;try simp at d1
   refine zC ?_)
 rotate_right 1
 focus
  intro c1;first|exact dn c1|(
   have d1:=c1;try simp at d1
   refine wa_ (zB (wM (h:=W3 (h:=nE (h:=zA (zF ?_)))))))
 all_goals first|refine zK ?_|(
  refine zA ?_;refine wa_ (zB (wM (h:=wM (h:=wM (h:=wM (h:=wM (h:=w_ (ca (hc:=qBn pl a hp hk k0) (h:=w_ (ca (hc:=zZj m _ r hr (by omega) hkey.1 hl) (h:=W3 (h:=nE (h:=zA ?_)))))))))))));refine zF ?_)
 all_goals (refine qX (hr:=(zL rfl zM)) (h:=?_);(focus (clear hk;simp only[zOm,xZ hd];simp[d1])))
theorem e_goS (pl:List Nd) (a m self:Int) (r:List Int) (hp:pl.length<2000000) (hk:okN pl) (hc:jU pl a m self=0) (hr:r.length<2000000) (hl:zEk pl a<=r.length):oc.call 176 [.lst false 0 (nds false 0 pl),.int .i64 a,.int .i64 m,.int .i64 self,.lst false 0 (ints r)]=some (.int .i64 (zOm pl a m self r),[]):=by
 refine qA rfl cd176 rfl rfl rfl (by simp;rfl) (by simp;rfl) ?_;obtain⟨k0,k4,k5,k6,k7⟩:=jJ hc;obtain⟨k1,k2,k3⟩:=jR k0;obtain⟨d,hd,g1⟩:=zK4 k2 k3;have hkey:=qAh hk k0;refine wa_ (zB (W3 (h:=nE (h:=zA (wa_ (wa_ (zB (wM (h:=wM (h:=w_ (x_ (h:=w_ (l_ (h:=?_))))))))))))));refine w_ (ca (hc:=zY1 d) (h:=nE (h:=zA ?_)));refine c_ (h1:=?_) (h2:=?_)
 rotate_right 1
 focus
  intro c1;first|exact dn c1|(
   have d1:=c1;try simp at d1
   refine zC ?_)
 rotate_right 1
 focus
  intro c1;first|exact dn c1|(
   have d1:=c1;try simp at d1
   refine wa_ (zB (wM (h:=W3 (h:=nE (h:=zA (zF ?_)))))))
 all_goals first|refine zK ?_|(
  refine zA ?_;refine wa_ (zB (wM (h:=wM (h:=wM (h:=wM (h:=w_ (ca (hc:=qL5 pl a hp hk k0) (h:=w_ (ca (hc:=zXn m _ r hr (by omega) hkey.1 hl) (h:=W3 (h:=nE (h:=zA (zF ?_))))))))))))))
 all_goals (refine qX (hr:=(zL rfl zM)) (h:=?_);(focus (clear hk;simp only[zOm,xZ hd];simp[d1])))
def zTs (pl:List Nd) (a m self:Int) (r:List Int):Int×Int:=if jU pl a m self=0 then(if zI0 r=0 then(if(r.length:Int)<zEk pl a then(1,0) else(0,zOm pl a m self r)) else(zI0 r,0)) else(jU pl a m self,0)
theorem qDs (pl:List Nd) (a m self:Int) (r:List Int) (hp:pl.length<2000000) (hk:okN pl) (hr:r.length<2000000):oc.call 13 [.lst false 0 (nds false 0 pl),.int .i64 a,.int .i64 m,.int .i64 self,.lst false 0 (ints r)]=some (.agg [.int .i64 (zTs pl a m self r).1,.int .i64 (zTs pl a m self r).2],[]):=by
 refine qA rfl cd13 rfl rfl rfl (by simp;rfl) (by simp;rfl) ?_;refine wa_ (zB (w_ (al (h:=nE (h:=zA (wa_ (zB (wM (h:=wM (h:=wM (h:=wM (h:=w_ (ca (hc:=zPo pl a m self hp hk) (h:=?_))))))))))))));refine wM (h:=w_ (ex (h:=w_ (ex (h:=W3 (h:=W3 (h:=nE (h:=zA (wa_ (wa_ (zB (wM (h:=w_ (bE (h:=?_)))))))))))))));refine nE (h:=zA ?_);refine c_ (h1:=?_) (h2:=?_)
 rotate_right 1
 focus
  intro c1;first|exact dn c1|(
   have d1:=c1;try simp at d1
   refine zC ?_)
 rotate_right 1
 focus
  intro c1;first|exact dn c1|(
   have d1:=c1;try simp at d1
   refine zB (wM (h:=w_ (ca (hc:=qB3 r hr) (h:=W3 (h:=nE (h:=?_)))))))
 all_goals first
 | (
  refine zA ?_;refine wa_ (wa_ (zB (wM (h:=w_ (bE (h:=wM (h:=?_)))))));refine gw_ (h1:=?_) (h2:=?_)
  rotate_right 1
  focus
   intro c2;first|exact dn c2|(
    have d2:=c2;try simp at d2
    refine go_ (h:=go_ (h:=go_ (h:=go_ (h:=go_ (h:=go_ (h:=go_ (h:=?_))))))))
  rotate_right 1
  focus
   intro c2;first|exact dn c2|(
    have d2:=c2;try simp at d2
    refine g_ (h:=wM (h:=g_ (h:=w_ (ca (hc:=zQn 0 (ints r) (by simp;omega)) (h:=g_ (h:=wM (h:=g_ (h:=wM (h:=g_ (h:=wM (h:=g_ (h:=w_ (ca (hc:=qBn pl a hp hk (jJ d1).1) (h:=g_ (h:=w_ (b_ (h:=?_))))))))))))))))))
  all_goals
   refine w_ (pk (h:=nE (h:=?_)))
  all_goals first
  | (
   refine zA ?_;refine c_ (h1:=?_) (h2:=?_)
   rotate_right 1
   focus
    intro c3;first|exact dn c3|(
     have d3:=c3;try simp at d3
     refine zC ?_)
   rotate_right 1
   focus
    intro c3;first|exact dn c3|(
     have d3:=c3;try simp at d3
     refine zB (W3 (h:=nE (h:=?_)))))
  all_goals first
  | (
   refine zA ?_;refine wa_ (wa_ (zB (wM (h:=w_ (bE (h:=nE (h:=zA ?_)))))));refine c_ (h1:=?_) (h2:=?_)
   rotate_right 1
   focus
    intro c4;first|exact dn c4|(
     have d4:=c4;try simp at d4
     refine zC ?_)
   rotate_right 1
   focus
    intro c4;first|exact dn c4|(
     have d4:=c4;try simp at d4
     refine wa_ (zB (wM (h:=w_ (bd (h:=w0 (s_ (h:=nE (h:=zA (zF ?_))))))))))
   all_goals first|refine zK ?_|(
    refine zA ?_;refine wa_ (zB (wM (h:=wM (h:=wM (h:=wM (h:=wM (h:=wM (h:=w_ (ca (hc:=qN8 pl a m self r hp hk d1 hr (by omega)) (h:=w_ (bd (h:=w0 (s_ (h:=nE (h:=?_)))))))))))))));refine zA (zF ?_))))
 all_goals (refine qX (hr:=(vY (tys_ok.zero _ _ rfl) rfl (by simp;rfl) (by rfl) zM)) (h:=?_);(focus (clear hk;simp[zTs] at * <;> grind)))
def vT:List Int->List Int->Int
 | [],[]=>0
 | [],_::_=>-1
 | _::_,[]=>1
 | a::r,b::s=>if a<b then -1 else if b<a then 1 else vT r s
theorem kX:∀(a b:List Int),vT a b=-vT b a
 | [],[]=>rfl
 | [],_::_=>rfl
 | _::_,[]=>rfl
 | a::r,b::s=>by
  simp only[vT];rw[kX r s]
  split<;>split<;>first|omega|rfl
theorem zWd:∀(a b:List Int),-1<=vT a b/\vT a b<=1
 | [],[]=>by simp[vT]
 | [],_::_=>by simp[vT]
 | _::_,[]=>by simp[vT]
 | a::r,b::s=>by
  simp only[vT]
  have:=zWd r s
  split
  ·omega
  ·split<;>omega
theorem cmpL_eq:∀{a b:List Int},vT a b=0↔a=b
 | [],[]=>by simp[vT]
 | [],_::_=>by simp[vT]
 | _::_,[]=>by simp[vT]
 | a::r,b::s=>by
  simp only[vT,List.cons.injEq];rw[<-cmpL_eq];split
  ·constructor<;>intro h<;>omega
  ·split
   ·constructor<;>intro h<;>omega
   ·constructor
    ·intro h;exact⟨by omega,h⟩
    ·intro h;exact h.2
theorem qB5 (a:Int):oc.call 249 [.int .i64 a]=some (.bool false,[]):=by
 refine qA rfl cd249 rfl rfl rfl (by simp;rfl) (by simp;rfl) ?_;refine wa_ (zB (W3 (h:=nE (h:=zA (wa_ (zB (wM (h:=wM (h:=w_ (bE (h:=W3 (h:=nE (h:=?_)))))))))))));refine zA (zF ?_)
 all_goals (refine qX (hr:=(zL rfl zM)) (h:=?_);(focus (first|(simp_all;done)|(simp_all<;>omega)|(simp_all<;>split<;>simp_all<;>omega))))
theorem qJo (a b:Int):oc.call 220 [.int .i64 a,.int .i64 b]=some (.int .i64 (zN9 a b),[]):=by
 refine qA rfl cd220 rfl rfl rfl (by simp;rfl) (by simp;rfl) ?_;refine wa_ (zB (W3 (h:=nE (h:=zA (wa_ (zB (wM (h:=w_ (ca (hc:=qB5 _) (h:=W3 (h:=nE (h:=zA ?_))))))))))));refine wa_ (zB (wM (h:=w_ (ca (hc:=qB5 _) (h:=W3 (h:=nE (h:=zA (wa_ (wa_ (zB (wM (h:=nE (h:=?_)))))))))))));refine zA ?_;refine c_ (h1:=?_) (h2:=?_)
 rotate_right 1
 focus
  intro c1;first|exact dn c1|(
   have d1:=c1;try simp at d1
   refine zC ?_)
 rotate_right 1
 focus
  intro c1;first|exact dn c1|(
   have d1:=c1;try simp at d1
   refine wa_ (wa_ (zB (wM (h:=nE (h:=zA ?_)))));refine c_ (h1:=?_) (h2:=?_)
   rotate_right 1
   focus
    intro c2;first|exact dn c2|(
     have d2:=c2;try simp at d2
     refine zC ?_)
   rotate_right 1
   focus
    intro c2;first|exact dn c2|(
     have d2:=c2;try simp at d2
     refine wa_ (zB (W3 (h:=nE (h:=zA (zF ?_))))))
   all_goals first|refine zK ?_|(
    refine zA ?_;refine wa_ (zB (W3 (h:=nE (h:=zA (zF ?_)))))))
 all_goals first|refine zK ?_|(
  refine zA ?_;refine wa_ (wa_ (zB (wM (h:=nE (h:=zA ?_)))));refine c_ (h1:=?_) (h2:=?_)
  rotate_right 1
  focus
   intro c3;first|exact dn c3|(
    have d3:=c3;try simp at d3
    refine zC ?_)
  rotate_right 1
  focus
   intro c3;first|exact dn c3|(
    have d3:=c3;try simp at d3
    refine wa_ (zB (W3 (h:=nE (h:=zA (zF ?_))))))
  all_goals first|refine zK ?_|(
   refine zA ?_;refine wa_ (wa_ (zB (wM (h:=wM (h:=w_ (b_ (h:=nE (h:=zA ?_))))))));refine c_ (h1:=?_) (h2:=?_)
   rotate_right 1
   focus
    intro c4;first|exact dn c4|(
     have d4:=c4;try simp at d4
     refine zC ?_)
   rotate_right 1
   focus
    intro c4;first|exact dn c4|(
     have d4:=c4;try simp at d4
     refine wa_ (zB (W3 (h:=nE (h:=zA (zF ?_))))))
   all_goals first|refine zK ?_|(
    refine zA ?_;refine wa_ (wa_ (zB (wM (h:=wM (h:=w_ (b_ (h:=nE (h:=zA ?_))))))));refine c_ (h1:=?_) (h2:=?_)
    rotate_right 1
    focus
     intro c5;first|exact dn c5|(
      have d5:=c5;try simp at d5
      refine zC ?_)
    rotate_right 1
    focus
     intro c5;first|exact dn c5|(
      have d5:=c5;try simp at d5
      refine wa_ (zB (W3 (h:=nE (h:=zA (zF ?_))))))
    all_goals first|refine zK ?_|(
     refine zA ?_;refine wa_ (zB (W3 (h:=nE (h:=zA (zF ?_)))))))))
 all_goals (refine qX (hr:=(zL rfl zM)) (h:=?_);(focus (simp[zN9];grind)))
theorem zJh:∀{a b:List Int},a.take (min a.length b.length)=b.take (min a.length b.length)->vT a b=zN9 a.length b.length
 | [],[],_=>rfl
 | [],y::s,_=>by simp[vT,zN9]<;>omega
 | x::r,[],_=>by simp[vT,zN9]<;>omega
 | x::r,y::s,h=>by
  have hm:min (x::r).length (y::s).length=min r.length s.length+1:=by simp only[List.length_cons];omega
  rw[hm,List.take_succ_cons,List.take_succ_cons,List.cons.injEq] at h
  have:=zJh h.2
  simp only[vT,h.1,Int.lt_irrefl,if_false,this,zN9,List.length_cons]
  split<;>split<;>first|omega|(split<;>omega)|rfl
theorem cut2 {a b:List Int} {i:Nat} (h:i<min a.length b.length):∃x y,a.drop i=x::a.drop (i+1)/\b.drop i=y::b.drop (i+1)/\(a.take (min a.length b.length)).drop i=x::(a.take (min a.length b.length)).drop (i+1)/\(b.take (min a.length b.length)).drop i=y::(b.take (min a.length b.length)).drop (i+1) /\
  (ints a)[(i:Int).toNat]? = some (.int .i64 x)/\(ints b)[(i:Int).toNat]? = some (.int .i64 y):=by
 have h1:i<a.length:=by omega
 have h2:i<b.length:=by omega
 refine⟨a[i],b[i],List.drop_eq_getElem_cons h1,List.drop_eq_getElem_cons h2,?_,?_,zNc h1,zNc h2⟩
 ·rw[List.drop_eq_getElem_cons (by simp;omega)];simp
 ·rw[List.drop_eq_getElem_cons (by simp;omega)];simp
theorem qMa (a b:List Int) (ha:a.length<2000000) (hb:b.length<2000000):∀i:Nat,(i<=min a.length b.length)->∀s,zH 2 (some [0,1,11,12]) s=⟨[(0,.lst false 0 (ints a)),(1,.lst false 0 (ints b)),(11,.int .i64 (if(b.length:Int)<a.length then b.length else a.length)),(12,.int .i64 i)],[],2⟩ ->
 oc.loop 171 2 s=some (if(a.take (min a.length b.length)).drop i=(b.take (min a.length b.length)).drop i then(.exit 0,⟨[(0,.lst false 0 (ints a)),(1,.lst false 0 (ints b))],[],2⟩) else(.ret,⟨[(0,.lst false 0 (ints a)),(1,.lst false 0 (ints b)),(4,.int .i64 (vT (a.drop i) (b.drop i)))],[],2⟩)):=by
 refine zV (σ:=Nat) (fun i=>min a.length b.length - i) _ (fun i=>⟨[(0,.lst false 0 (ints a)),(1,.lst false 0 (ints b)),(11,.int .i64 (if(b.length:Int)<a.length then b.length else a.length)),(12,.int .i64 i)],[],2⟩) _ ?_;intro i hi ih s hs;refine qD qKi rfl rfl hs ?_;have hmin:(if(b.length:Int)<a.length then(b.length:Int) else a.length)=(min a.length b.length:Nat):=by split<;>omega
 refine wa_ (zB (w_ (b_ (h:=nE (h:=zA (wa_ ?_))))));refine c_ (h1:=?_) (h2:=?_)
 rotate_right 1
 focus
  intro c1;first|exact dn c1|(
   have d1:=c1;try simp at d1
   have c9:=c1;rw[hmin] at c9;simp at c9;have hi2:i=min a.length b.length:=(by omega);refine zW ?_)
 rotate_right 1
 focus
  intro c1;first|exact dn c1|(
   have d1:=c1;try simp at d1
   have c9:=c1;rw[hmin] at c9;simp at c9;have hw:=zU (i:=i) (by omega);obtain⟨x,y,e1,e2,e3,e4,g1,g2⟩:=cut2 (a:=a) (b:=b) (i:=i) (by omega);refine zC ?_)
 all_goals first|refine zR ?_|(
  refine zA ?_;refine wa_ (zG (wa_ (zB (wM (h:=W3 (h:=nE (h:=zA (wa_ (qE (yM (h:=yM (h:=?_))))))))))));refine y_ (x_ (h:=ax_ (h:=y_ (l_ (h:=ax_ (h:=yM (h:=yM (h:=y_ (x_ (h:=ax_ (h:=y_ (l_ (h:=ax_ (h:=y_ (ca (hc:=qE1 _ _) (h:=ax_ (h:=y_ (a_ (h:=ax_ (h:=qO (ed (h:=zA (wa_ (zB ?_))))))))))))))))))))))));refine wM (h:=w_ (bE (h:=nE (h:=zA ?_))));refine c_ (h1:=?_) (h2:=?_)
  rotate_right 1
  focus
   intro c2;first|exact dn c2|(
    have d2:=c2;try simp at d2
    refine zC ?_)
  rotate_right 1
  focus
   intro c2;first|exact dn c2|(
    have d2:=c2;try simp at d2
    refine wa_ (zB (wM (h:=W3 (h:=nE (h:=zA (zF ?_)))))))
  all_goals first|refine zI ?_|refine zX ?_
  all_goals first|refine zK ?_|(
   refine zA ?_;refine zB (w_ (b_ (h:=wM (h:=nE (h:=?_)))))))
 all_goals first
 | (refine(ih (i+1) (by omega) ?_ _ ?_).trans ?_;(focus (first|omega|(simp;done)|(simp;omega)));(focus (simp[zH,hw];done));(focus (simp only[zN9] at d2;have hxy:x=y:=(by grind);rw[e1,e2,e3,e4];simp[hxy,vT])))
 | (apply zP (ex:=Ext.ret) 2 (some [0,1,4]);(focus (simp[zH];rfl));(focus (rw[e1,e2,e3,e4];simp only[zN9] at d2;have hxy:x≠y:=(by grind);simp only[List.cons.injEq,hxy,false_and,if_false,vT,zN9];grind)))
 | (apply zP (ex:=(Ext.exit 0)) 2 (some [0,1,4]);(focus (simp[zH];rfl));(focus (rw[if_pos (by rw[List.drop_eq_nil_of_le (by simp;omega),List.drop_eq_nil_of_le (by simp;omega)])])))
theorem zVm (a b:List Int) (ha:a.length<2000000) (hb:b.length<2000000):oc.call 171 [.lst false 0 (ints a),.lst false 0 (ints b)]=some (.int .i64 (vT a b),[]):=by
 refine qA rfl qKi rfl rfl rfl (by simp;rfl) (by simp;rfl) ?_;refine wa_ (zB (W3 (h:=nE (h:=zA (wa_ (wa_ (zB (wM (h:=w_ (le (h:=wM (h:=w_ (le (h:=?_))))))))))))));refine w_ (mi (h:=wM (h:=nE (h:=zA (zG ?_)))));refine qY (qMa a b ha hb 0 (by omega) _ (by simp[zH])) ?_ ?_
 rotate_right 1
 focus
  intro c1
  skip
 rotate_right 1
 focus
  intro c1
  skip
 all_goals first|refine zX ?_|refine zS ?_
 all_goals first|refine zK ?_|(
  refine zA ?_;refine wa_ (zB (wM (h:=w_ (le (h:=wM (h:=w_ (le (h:=w_ (ca (hc:=qJo _ _) (h:=W3 (h:=nE (h:=zA (zF ?_))))))))))))))
 all_goals (refine qX (hr:=(zL rfl zM)) (h:=?_);(focus (first|(have h3:=zJh (a:=a) (b:=b) (by simpa using c1);simp[h3];done)|simp)))
theorem qL3 (a b:List Int) (ha:a.length<2000000) (hb:b.length<2000000):∀i:Nat,(i<=min a.length b.length)->∀s,zH 2 (some [0,1,5]) s=⟨[(0,.lst false 0 (ints a)),(1,.lst false 0 (ints b)),(5,.int .i64 i)],[],2⟩ ->
 oc.loop 174 2 s=some (if(a.take (min a.length b.length)).drop i=(b.take (min a.length b.length)).drop i then(.exit 0,⟨[(0,.lst false 0 (ints a)),(1,.lst false 0 (ints b))],[],2⟩) else(.ret,⟨[(0,.lst false 0 (ints a)),(1,.lst false 0 (ints b)),(4,.int .i64 (vT (a.drop i) (b.drop i)))],[],2⟩)):=by
 refine zV (σ:=Nat) (fun i=>min a.length b.length - i) _ (fun i=>⟨[(0,.lst false 0 (ints a)),(1,.lst false 0 (ints b)),(5,.int .i64 i)],[],2⟩) _ ?_;intro i hi ih s hs;refine qD qK8 rfl rfl hs ?_;refine wa_ (wa_ (zB (wM (h:=wM (h:=w_ (le (h:=w_ (b_ (h:=wM (h:=?_))))))))));refine gw_ (h1:=?_) (h2:=?_)
 rotate_right 1
 focus
  intro c1;first|exact dn c1|(
   have d1:=c1;try simp at d1
   refine go_ (h:=go_ (h:=go_ (h:=go_ (h:=?_)))))
 rotate_right 1
 focus
  intro c1;first|exact dn c1|(
   have d1:=c1;try simp at d1
   refine g_ (h:=wM (h:=g_ (h:=wM (h:=g_ (h:=w_ (le (h:=g_ (h:=w_ (b_ (h:=?_)))))))))))
 all_goals
  refine w_ (pk (h:=nE (h:=?_)))
 all_goals first
 | (
  refine zA ?_;refine c_ (h1:=?_) (h2:=?_)
  rotate_right 1
  focus
   intro c2;first|exact dn c2|(
    have d2:=c2;try simp at d2
    have hi2:i=min a.length b.length:=(by omega);refine zW ?_)
  rotate_right 1
  focus
   intro c2;first|exact dn c2|(
    have d2:=c2;try simp at d2
    have hw:=zU (i:=i) (by omega);obtain⟨x,y,e1,e2,e3,e4,g1,g2⟩:=cut2 (a:=a) (b:=b) (i:=i) (by omega);refine zC ?_))
 all_goals first|refine zR ?_|(
  refine zA ?_;refine wa_ (zG (wa_ (wa_ (qE (yM (h:=yM (h:=y_ (x_ (h:=ax_ (h:=y_ (l_ (h:=ax_ (h:=yM (h:=yM (h:=y_ (x_ (h:=ax_ (h:=?_))))))))))))))))));refine y_ (l_ (h:=ax_ (h:=y_ (b_ (h:=ax_ (h:=qO (ed (h:=zA ?_))))))));refine c_ (h1:=?_) (h2:=?_)
  rotate_right 1
  focus
   intro c3;first|exact dn c3|(
    have d3:=c3;try simp at d3
    refine zC ?_)
  rotate_right 1
  focus
   intro c3;first|exact dn c3|(
    have d3:=c3;try simp at d3
    refine wa_ (zB (W3 (h:=nE (h:=zA (zF ?_))))))
  all_goals first|refine zK ?_|(
   refine zA ?_;refine wa_ (qE (yM (h:=yM (h:=y_ (x_ (h:=ax_ (h:=y_ (l_ (h:=ax_ (h:=yM (h:=yM (h:=y_ (x_ (h:=ax_ (h:=y_ (l_ (h:=ax_ (h:=y_ (b_ (h:=ax_ (h:=qO (ed (h:=?_)))))))))))))))))))))));refine zA ?_;refine c_ (h1:=?_) (h2:=?_)
   rotate_right 1
   focus
    intro c4;first|exact dn c4|(
     have d4:=c4;try simp at d4
     refine zC ?_)
   rotate_right 1
   focus
    intro c4;first|exact dn c4|(
     have d4:=c4;try simp at d4
     refine wa_ (zB (W3 (h:=nE (h:=zA (zF ?_)))))))
  all_goals first|refine zI ?_|refine zX ?_
  all_goals first|refine zK ?_|(
   refine zA ?_;refine zB (wM (h:=w_ (b_ (h:=W3 (h:=nE (h:=?_))))))))
 all_goals first
 | (refine(ih (i+1) (by omega) ?_ _ ?_).trans ?_;(focus (first|omega|(simp;done)|(simp;omega)));(focus (simp[zH,hw];done));(focus (have hxy:x=y:=(by omega);rw[e1,e2,e3,e4];simp[hxy,vT])))
 | (apply zP (ex:=Ext.ret) 2 (some [0,1,4]);(focus (simp[zH];rfl));(focus (have hxy:x≠y:=(by omega);rw[e1,e2,e3,e4];simp only[List.cons.injEq,hxy,false_and,if_false,vT];rw[if_pos (by omega)])))
 | (apply zP (ex:=Ext.ret) 2 (some [0,1,4]);(focus (simp[zH];rfl));(focus (have hxy:x≠y:=(by omega);rw[e1,e2,e3,e4];simp only[List.cons.injEq,hxy,false_and,if_false,vT];rw[if_neg (by omega),if_pos (by omega)])))
 | (apply zP (ex:=(Ext.exit 0)) 2 (some [0,1,4]);(focus (simp[zH];rfl));(focus (rw[if_pos (by rw[List.drop_eq_nil_of_le (by simp;omega),List.drop_eq_nil_of_le (by simp;omega)])])))
theorem zNv (a b:List Int) (ha:a.length<2000000) (hb:b.length<2000000):oc.call 174 [.lst false 0 (ints a),.lst false 0 (ints b)]=some (.int .i64 (vT a b),[]):=by
 refine qA rfl qK8 rfl rfl rfl (by simp;rfl) (by simp;rfl) ?_;refine wa_ (zB (W3 (h:=nE (h:=zA (wa_ (wa_ (zB (W3 (h:=nE (h:=zA (zG ?_)))))))))));refine qY (qL3 a b ha hb 0 (by omega) _ (by simp[zH])) ?_ ?_
 rotate_right 1
 focus
  intro c1;first|exact dn c1|(
   have d1:=c1;try simp at d1
   skip)
 rotate_right 1
 focus
  intro c1;first|exact dn c1|(
   have d1:=c1;try simp at d1
   skip)
 all_goals first|refine zX ?_|refine zS ?_
 all_goals first|refine zK ?_|(
  refine zA ?_;refine wa_ (wa_ (zB (wM (h:=w_ (le (h:=wM (h:=w_ (le (h:=w_ (b_ (h:=nE (h:=zA ?_))))))))))));refine c_ (h1:=?_) (h2:=?_)
  rotate_right 1
  focus
   intro c2;first|exact dn c2|(
    have d2:=c2;try simp at d2
    refine zC ?_)
  rotate_right 1
  focus
   intro c2;first|exact dn c2|(
    have d2:=c2;try simp at d2
    refine wa_ (zB (W3 (h:=nE (h:=zA (zF ?_))))))
  all_goals first|refine zK ?_|(
   refine zA ?_;refine wa_ (wa_ (zB (wM (h:=w_ (le (h:=wM (h:=w_ (le (h:=w_ (b_ (h:=nE (h:=zA ?_))))))))))));refine c_ (h1:=?_) (h2:=?_)
   rotate_right 1
   focus
    intro c3;first|exact dn c3|(
     have d3:=c3;try simp at d3
     refine zC ?_)
   rotate_right 1
   focus
    intro c3;first|exact dn c3|(
     have d3:=c3;try simp at d3
     refine wa_ (zB (W3 (h:=nE (h:=zA (zF ?_))))))
   all_goals first|refine zK ?_|(
    refine zA ?_;refine wa_ (zB (W3 (h:=nE (h:=zA (zF ?_))))))))
 all_goals (refine qX (hr:=(zL rfl zM)) (h:=?_);(focus (first|(have h3:=zJh (a:=a) (b:=b) (by simpa using c1);simp[h3,zN9];first|omega|grind)|(simp;done))))
end Go.Proofs.YtbcgenkegnmkhaaGreat.Ev
namespace Go.Proofs.YtbcgenkegnmkhaaGreat.Ev
set_option linter.unusedSectionVars false
section
variable {α : Type} [Inhabited α]
def nth (l:List α) (i:Nat):α:=l[i]?.getD default
theorem zEr {l:List α} {i:Nat} (h:i<l.length):l[i]? = some (nth l i):=by
 unfold nth;rw[List.getElem?_eq_getElem h];rfl
theorem zVk {l:List α} {i k:Nat} {x:α} (h:i<l.length):nth (l.set i x) k=if k=i then x else nth l k:=by
 unfold nth
 by_cases e:k=i
 ·subst e;rw[if_pos rfl,List.getElem?_set_self h];rfl
 ·rw[if_neg e,List.getElem?_set_ne (Ne.symm e)]
def swp (l:List α) (i j:Nat):List α:=(l.set i (nth l j)).set j (nth l i)
@[simp] theorem swp_len {l:List α} {i j:Nat}:(swp l i j).length=l.length:=by simp[swp]
theorem zEv {l:List α} {i j k:Nat} (hi:i<l.length) (hj:j<l.length):nth (swp l i j) k=if k=j then nth l i else if k=i then nth l j else nth l k:=by
 unfold swp;rw[zVk (by simpa using hj),zVk hi]
theorem zQ6 {l:List α} {i j:Nat} (hi:i<l.length) (hj:j<l.length):(swp l i j).Perm l:=by
 have h:((l.set i l[j]).set j l[i]).Perm l:=List.set_set_perm hi hj;have e1:nth l j=l[j]:=by unfold nth;rw[List.getElem?_eq_getElem hj];rfl
 have e2:nth l i=l[i]:=by unfold nth;rw[List.getElem?_eq_getElem hi];rfl
 unfold swp;rw[e1,e2];exact h
structure Wit (a b:Nat) (l r:List α):Prop where
 perm:r.Perm l
 out:∀k,k<a\/b<=k->nth r k=nth l k
 mem:∀k,a<=k->k<b->∃i,a<=i/\i<b/\nth r k=nth l i
theorem Wit.len {a b:Nat} {l r:List α} (h:Wit a b l r):r.length=l.length:=h.perm.length_eq
theorem Wit.refl (a b:Nat) (l:List α):Wit a b l l:=⟨.refl _,fun _ _=>rfl,fun k h1 h2=>⟨k,h1,h2,rfl⟩⟩
theorem Wit.trans {a b:Nat} {l m r:List α} (h1:Wit a b l m) (h2:Wit a b m r):Wit a b l r :=
 ⟨h2.perm.trans h1.perm,fun k hk=>(h2.out k hk).trans (h1.out k hk),fun k ha hb=>by
  obtain⟨i,hi1,hi2,e⟩:=h2.mem k ha hb;obtain⟨j,hj1,hj2,e2⟩:=h1.mem i hi1 hi2
  exact⟨j,hj1,hj2,e.trans e2⟩⟩
theorem Wit.wide {a b a' b':Nat} {l r:List α} (h:Wit a b l r) (ha:a'<=a) (hb:b<=b'):Wit a' b' l r :=
 ⟨h.perm,fun k hk=>h.out k (by omega),fun k h1 h2=>by
  by_cases hk:a<=k/\k<b
  ·obtain⟨i,i1,i2,e⟩:=h.mem k hk.1 hk.2
   exact⟨i,by omega,by omega,e⟩
  ·exact⟨k,h1,h2,h.out k (by omega)⟩⟩
theorem zOj {l:List α} {a b i j:Nat} (hb:b<=l.length) (hi:a<=i) (hi2:i<b) (hj:a<=j) (hj2:j<b):Wit a b l (swp l i j):=by
 refine⟨zQ6 (by omega) (by omega),fun k hk=>?_,fun k h1 h2=>?_⟩
 ·rw[zEv (by omega) (by omega),if_neg (by omega),if_neg (by omega)]
 ·rw[zEv (by omega) (by omega)]
  split
  ·exact⟨i,hi,hi2,rfl⟩
  ·split
   ·exact⟨j,hj,hj2,rfl⟩
   ·exact⟨k,h1,h2,rfl⟩
structure Ordr (lt:α->α->Bool):Prop where
 asym:∀{x y},lt x y=true->lt y x=false
 ntr:∀{x y z},lt y x=false->lt z y=false->lt z x=false
def Srt (lt:α->α->Bool) (a b:Nat) (l:List α):Prop:=∀i j,a<=i->i<=j->j<b->lt (nth l j) (nth l i)=false
variable {lt : α->α->Bool}
theorem Ordr.rfl' (O:Ordr lt) (x:α):lt x x=false:=by
 cases h:lt x x
 ·rfl
 ·have:=O.asym h;rw[h] at this;cases this
theorem Srt.sub {a b a' b':Nat} {l:List α} (h:Srt lt a b l) (ha:a<=a') (hb:b'<=b):Srt lt a' b' l:=fun i j h1 h2 h3=>h i j (by omega) h2 (by omega)
theorem Srt.one (O:Ordr lt) {a b:Nat} {l:List α} (h:b<=a+1):Srt lt a b l:=fun i j h1 h2 h3=>by
 obtain rfl:i=j:=by omega
 exact O.rfl' _
theorem Srt.out {a b c d:Nat} {l r:List α} (h:Srt lt c d l) (w:Wit a b l r) (hd:d<=a\/b<=c):Srt lt c d r:=fun i j h1 h2 h3=>by
 rw[w.out i (by omega),w.out j (by omega)];exact h i j h1 h2 h3
def bub (lt:α->α->Bool) (a:Nat):Nat->List α->List α
 | 0,l=>l
 | j+1,l=>if a<j+1/\lt (nth l (j+1)) (nth l j)=true then bub lt a j (swp l (j+1) j) else l
theorem zOs {a b:Nat}:∀{j:Nat} {l:List α},b<=l.length->a<=j->j<b->Wit a b l (bub lt a j l)
 | 0,l,_,_,_=>Wit.refl ..
 | j+1,l,hb,ha,hj=>by
  unfold bub;split
  ·rename_i h
   have w:=zOj (l:=l) (a:=a) (b:=b) (i:=j+1) (j:=j) hb ha hj (by omega) (by omega);exact w.trans (zOs (by simpa using hb) (by omega) (by omega))
  ·exact Wit.refl ..
theorem zUx (O:Ordr lt) {a b:Nat}:∀{j:Nat} {l:List α},b<=l.length->a<=j->j<b->(∀i k,a<=i->i<=k->k<b->i≠j->k≠j->lt (nth l k) (nth l i)=false)->(∀k,j<=k->k<b->lt (nth l k) (nth l j)=false)->Srt lt a b (bub lt a j l)
 | 0,l,hb,ha,hj,h1,h2=>by
  obtain rfl:a=0:=by omega
  show Srt lt 0 b l;intro i k hi hik hk
  by_cases e:i=0
  ·subst e;exact h2 k (by omega) hk
  ·exact h1 i k hi hik hk e (by omega)
 | j+1,l,hb,ha,hj,h1,h2=>by
  unfold bub;split
  ·rename_i h
   have hw:∀k,nth (swp l (j+1) j) k=_:=fun k=>zEv (l:=l) (i:=j+1) (j:=j) (by omega) (by omega)
   refine zUx O (by simpa using hb) (by omega) (by omega) (fun i k hi hik hk e1 e2=>?_) (fun k hjk hk=>?_)
   ·rw[hw,hw,if_neg e1,if_neg e2]
    by_cases ek:k=j+1
    ·subst ek
     rw[if_pos rfl]
     by_cases ei:i=j+1
     ·subst ei;rw[if_pos rfl];exact O.rfl' _
     ·rw[if_neg ei];exact h1 i j hi (by omega) (by omega) ei (by omega)
    ·rw[if_neg ek]
     by_cases ei:i=j+1
     ·subst ei;rw[if_pos rfl];exact h1 j k (by omega) (by omega) hk (by omega) ek
     ·rw[if_neg ei];exact h1 i k hi hik hk ei ek
   ·rw[hw,hw,if_pos rfl]
    by_cases ek:k=j
    ·subst ek;rw[if_pos rfl];exact O.rfl' _
    ·rw[if_neg ek]
     by_cases ek2:k=j+1
     ·subst ek2;rw[if_pos rfl];exact O.asym h.2
     ·rw[if_neg ek2];exact h2 k (by omega) hk
  ·rename_i h
   intro i k hi hik hk
   have hj1:∀i,a<=i->i<=j->lt (nth l (j+1)) (nth l i)=false:=fun i hi hij=>by
    have hn:lt (nth l (j+1)) (nth l j)=false:=by
     cases hc:lt (nth l (j+1)) (nth l j)
     ·rfl
     ·exact absurd ⟨by omega,hc⟩ h
    by_cases e:i=j
    ·subst e;exact hn
    ·exact O.ntr (h1 i j hi (by omega) (by omega) (by omega) (by omega)) hn
   by_cases ek:k=j+1
   ·subst ek
    by_cases ei:i=j+1
    ·subst ei;exact O.rfl' _
    ·exact hj1 i hi (by omega)
   ·by_cases ei:i=j+1
    ·subst ei;exact h2 k (by omega) hk
    ·exact h1 i k hi hik hk ei ek
def qG8 (lt:α->α->Bool) (a:Nat):Nat->Nat->List α->List α
 | 0,_,l=>l
 | n+1,i,l=>qG8 lt a n (i+1) (bub lt a i l)
theorem zUq (O:Ordr lt) {a b:Nat}:∀{n i:Nat} {l:List α},i+n=b->a<i->b<=l.length->Srt lt a i l->Wit a b l (qG8 lt a n i l)/\Srt lt a b (qG8 lt a n i l)
 | 0,i,l,hn,ha,hb,hs=>by
  obtain rfl:i=b:=by omega
  exact⟨Wit.refl ..,hs⟩
 | n+1,i,l,hn,ha,hb,hs=>by
  unfold qG8;have w:=zOs (lt:=lt) (a:=a) (b:=i+1) (j:=i) (l:=l) (by omega) (by omega) (by omega)
  have hs2:=zUx O (a:=a) (b:=i+1) (j:=i) (l:=l) (by omega) (by omega) (by omega) (fun p q h1 h2 h3 e1 e2=>hs p q h1 h2 (by omega)) (fun k h1 h2=>by
   obtain rfl:k=i:=by omega
   exact O.rfl' _)
  have hr:=zUq O (a:=a) (b:=b) (n:=n) (i:=i+1) (l:=bub lt a i l) (by omega) (by omega) (by rw[w.len];exact hb) hs2;exact⟨(w.wide (by omega) (by omega)).trans hr.1,hr.2⟩
def ins (lt:α->α->Bool) (a b:Nat) (l:List α):List α:=qG8 lt a (b - (a+1)) (a+1) l
theorem zM8 (O:Ordr lt) {a b:Nat} {l:List α} (hb:b<=l.length):Wit a b l (ins lt a b l)/\Srt lt a b (ins lt a b l):=by
 by_cases h:a+1<=b
 ·exact zUq O (by omega) (by omega) hb (Srt.one O (by omega))
 ·unfold ins
  rw[show b - (a+1)=0 by omega];exact⟨Wit.refl ..,Srt.one O (by omega)⟩
def hlf (p:Nat->Bool) (i j:Nat):Nat :=
 if h:i<j then if p ((i+j) / 2)=true then hlf p ((i+j) / 2+1) j else hlf p i ((i+j) / 2) else i
termination_by j - i
decreasing_by all_goals omega
theorem zDx {p:Nat->Bool}:∀(i j:Nat),i<=j->i<=hlf p i j/\hlf p i j<=j/\((∀x y,i<=x->x<=y->y<j->p y=true->p x=true)->(∀x,i<=x->x<hlf p i j->p x=true)/\∀x,hlf p i j<=x->x<j->p x=false):=by
 intro i j hij
 induction hd:j - i using Nat.strongRecOn generalizing i j with
 | _ d ih =>
  subst hd;unfold hlf;split
  ·rename_i h
   split
   ·rename_i hp
    obtain⟨h1,h2,h3⟩:=ih (j - ((i+j) / 2+1)) (by omega) ((i+j) / 2+1) j (by omega) rfl;refine⟨by omega,h2,fun hm=>?_⟩;obtain⟨h4,h5⟩:=h3 (fun x y a b c d=>hm x y (by omega) b c d);refine⟨fun x a b=>?_,h5⟩
    by_cases e:(i+j) / 2+1<=x
    ·exact h4 x e b
    ·exact hm x ((i+j) / 2) a (by omega) (by omega) hp
   ·rename_i hp
    obtain⟨h1,h2,h3⟩:=ih ((i+j) / 2 - i) (by omega) i ((i+j) / 2) (by omega) rfl;refine⟨h1,by omega,fun hm=>?_⟩;obtain⟨h4,h5⟩:=h3 (fun x y a b c d=>hm x y a b (by omega) d);refine⟨h4,fun x a b=>?_⟩
    by_cases e:x<(i+j) / 2
    ·exact h5 x a e
    ·cases hx:p x
     ·rfl
     ·exact absurd (hm ((i+j) / 2) x (by omega) (by omega) b hx) hp
  ·refine⟨by omega,by omega,fun hm=>⟨fun x a b=>by omega,fun x a b=>by omega⟩⟩
def mvU:Nat->Nat->List α->List α
 | 0,_,l=>l
 | n+1,k,l=>mvU n (k+1) (swp l k (k+1))
def mvD:Nat->Nat->List α->List α
 | 0,_,l=>l
 | n+1,k,l=>mvD n (k - 1) (swp l k (k - 1))
theorem zWz:∀{n k:Nat} {l:List α},k+n<l.length->Wit k (k+n+1) l (mvU n k l)/\(∀i,k<=i->i<k+n->nth (mvU n k l) i=nth l (i+1))/\nth (mvU n k l) (k+n)=nth l k
 | 0,k,l,_=>⟨Wit.refl ..,fun i _ _=>by omega,rfl⟩
 | n+1,k,l,h=>by
  have w:=zOj (l:=l) (a:=k) (b:=k+2) (i:=k) (j:=k+1) (by omega) (by omega) (by omega) (by omega) (by omega);have hw:∀q,nth (swp l k (k+1)) q=_:=fun q=>zEv (l:=l) (i:=k) (j:=k+1) (by omega) (by omega)
  obtain⟨h1,h2,h3⟩:=zWz (n:=n) (k:=k+1) (l:=swp l k (k+1)) (by simp;omega);show Wit _ _ _ (mvU n (k+1) (swp l k (k+1)))/\(∀i,_->_->nth (mvU n (k+1) (swp l k (k+1))) i=_)/\nth (mvU n (k+1) (swp l k (k+1))) _=_;refine⟨(w.wide (by omega) (by omega)).trans (h1.wide (by omega) (by omega)),fun i a b=>?_,?_⟩
  ·by_cases e:i=k
   ·subst e
    rw[h1.out i (by omega),hw,if_neg (by omega),if_pos rfl]
   ·rw[h2 i (by omega) (by omega),hw,if_neg (by omega),if_neg (by omega)]
  ·rw[show k+(n+1)=k+1+n by omega,h3,hw,if_pos rfl]
theorem zW7:∀{n k:Nat} {l:List α},n<=k->k<l.length->Wit (k - n) (k+1) l (mvD n k l)/\(∀i,k - n<i->i<=k->nth (mvD n k l) i=nth l (i - 1))/\nth (mvD n k l) (k - n)=nth l k
 | 0,k,l,_,_=>⟨Wit.refl ..,fun i _ _=>by omega,rfl⟩
 | n+1,k,l,hn,h=>by
  have w:=zOj (l:=l) (a:=k - 1) (b:=k+1) (i:=k) (j:=k - 1) (by omega) (by omega) (by omega) (by omega) (by omega);have hw:∀q,nth (swp l k (k - 1)) q=_:=fun q=>zEv (l:=l) (i:=k) (j:=k - 1) (by omega) (by omega)
  obtain⟨h1,h2,h3⟩:=zW7 (n:=n) (k:=k - 1) (l:=swp l k (k - 1)) (by omega) (by simp;omega);show Wit _ _ _ (mvD n (k - 1) (swp l k (k - 1)))/\(∀i,_->_->nth (mvD n (k - 1) (swp l k (k - 1))) i=_)/\nth (mvD n (k - 1) (swp l k (k - 1))) _=_;refine⟨(w.wide (by omega) (by omega)).trans (h1.wide (by omega) (by omega)),fun i a b=>?_,?_⟩
  ·by_cases e:i=k
   ·subst e
    rw[h1.out i (by omega),hw,if_neg (by omega),if_pos rfl]
   ·rw[h2 i (by omega) (by omega),hw,if_neg (by omega),if_neg (by omega)]
  ·rw[show k - (n+1)=k - 1 - n by omega,h3,hw,if_pos rfl]
def swR:Nat->Nat->Nat->List α->List α
 | 0,_,_,l=>l
 | n+1,a,b,l=>swR n (a+1) (b+1) (swp l a b)
theorem zEa:∀{n a b:Nat} {l:List α},a+n<=b->b+n<=l.length->(swR n a b l).Perm l/\∀k,nth (swR n a b l) k=if a<=k/\k<a+n then nth l (k - a+b) else if b<=k/\k<b+n then nth l (k - b+a) else nth l k
 | 0,a,b,l,_,_=>⟨.refl _,fun k=>by rw[if_neg (by omega),if_neg (by omega)];rfl⟩
 | n+1,a,b,l,h1,h2=>by
  obtain⟨p,h⟩:=zEa (n:=n) (a:=a+1) (b:=b+1) (l:=swp l a b) (by omega) (by simp;omega);have hw:∀q,nth (swp l a b) q=_:=fun q=>zEv (l:=l) (i:=a) (j:=b) (by omega) (by omega)
  refine⟨p.trans (zQ6 (by omega) (by omega)),fun k=>?_⟩;show nth (swR n (a+1) (b+1) (swp l a b)) k=_;rw[h k]
  by_cases c1:a<=k/\k<a+(n+1)
  ·rw[if_pos c1]
   by_cases e:k=a
   ·subst e
    rw[if_neg (by omega),if_neg (by omega),hw,if_neg (by omega),if_pos rfl]
    congr 1;omega
   ·rw[if_pos (by omega),hw,if_neg (by omega),if_neg (by omega)]
    congr 1;omega
  ·rw[if_neg c1,if_neg (by omega)]
   by_cases c2:b<=k/\k<b+(n+1)
   ·rw[if_pos c2]
    by_cases e:k=b
    ·subst e
     rw[if_neg (by omega),hw,if_pos rfl]
     congr 1;omega
    ·rw[if_pos (by omega),hw,if_neg (by omega),if_neg (by omega)]
     congr 1;omega
   ·rw[if_neg c2,if_neg (by omega),hw,if_neg (by omega),if_neg (by omega)]
def rot (m i j:Nat) (l:List α):List α :=
 if i=0\/j=0 then l else if i=j then swR i (m - i) m l else if j<i then rot m (i - j) j (swR j (m - i) m l) else rot m i (j - i) (swR i (m - i) (m+j - i) l)
termination_by i + j
decreasing_by all_goals omega
theorem qAr {m:Nat}:∀(i j:Nat) (l:List α),i<=m->m+j<=l.length->(rot m i j l).Perm l/\∀k,nth (rot m i j l) k=if m - i<=k/\k<m - i+j then nth l (k+i) else if m - i+j<=k/\k<m+j then nth l (k - j) else nth l k:=by
 intro i j
 induction hd:i+j using Nat.strongRecOn generalizing i j with
 | _ d ih =>
  subst hd;intro l hi hj;unfold rot;split
  ·rename_i h0
   refine⟨.refl _,fun k=>?_⟩
   by_cases c1:m - i<=k/\k<m - i+j
   ·rw[if_pos c1];congr 1;omega
   ·rw[if_neg c1]
    by_cases c2:m - i+j<=k/\k<m+j
    ·rw[if_pos c2];congr 1;omega
    ·rw[if_neg c2]
  ·rename_i h0
   split
   ·rename_i e
    subst e;obtain⟨p,h⟩:=zEa (n:=i) (a:=m - i) (b:=m) (l:=l) (by omega) (by omega);refine⟨p,fun k=>?_⟩;rw[h k]
    by_cases c1:m - i<=k/\k<m - i+i
    ·rw[if_pos c1,if_pos c1];congr 1;omega
    ·rw[if_neg c1,if_neg c1]
     by_cases c2:m<=k/\k<m+i
     ·rw[if_pos c2,if_pos (by omega)];congr 1;omega
     ·rw[if_neg c2,if_neg (by omega)]
   ·rename_i e
    split
    ·rename_i hlt
     obtain⟨p,h⟩:=zEa (n:=j) (a:=m - i) (b:=m) (l:=l) (by omega) (by omega);obtain⟨p2,h2⟩:=ih (i - j+j) (by omega) (i - j) j rfl (swR j (m - i) m l) (by omega) (by rw[p.length_eq];omega);refine⟨p2.trans p,fun k=>?_⟩;rw[h2 k]
     by_cases c1:m - i<=k/\k<m - i+j
     ·rw[if_pos c1,if_neg (by omega),if_neg (by omega),h k,if_pos c1];congr 1;omega
     ·rw[if_neg c1]
      by_cases c2:m - i+j<=k/\k<m+j
      ·rw[if_pos c2]
       by_cases c3:m - (i - j)<=k/\k<m - (i - j)+j
       ·rw[if_pos c3,h,if_neg (by omega),if_pos (by omega)];congr 1;omega
       ·rw[if_neg c3,if_pos (by omega),h,if_neg (by omega),if_neg (by omega)]
      ·rw[if_neg c2,if_neg (by omega),if_neg (by omega),h,if_neg (by omega),if_neg (by omega)]
    ·rename_i hlt
     obtain⟨p,h⟩:=zEa (n:=i) (a:=m - i) (b:=m+j - i) (l:=l) (by omega) (by omega);obtain⟨p2,h2⟩:=ih (i+(j - i)) (by omega) i (j - i) rfl (swR i (m - i) (m+j - i) l) (by omega) (by rw[p.length_eq];omega);refine⟨p2.trans p,fun k=>?_⟩;rw[h2 k]
     by_cases c1:m - i<=k/\k<m - i+j
     ·rw[if_pos c1]
      by_cases c3:m - i<=k/\k<m - i+(j - i)
      ·rw[if_pos c3,h]
       by_cases c4:m<=k+i
       ·rw[if_neg (by omega),if_neg (by omega)]
       ·omega
      ·rw[if_neg c3]
       by_cases c5:k<m+(j - i)
       ·rw[if_pos (by omega),h,if_pos (by omega)];congr 1;omega
       ·omega
     ·rw[if_neg c1]
      by_cases c2:m - i+j<=k/\k<m+j
      ·rw[if_pos c2,if_neg (by omega),if_neg (by omega),h,if_neg (by omega),if_pos (by omega)];congr 1;omega
      ·rw[if_neg c2,if_neg (by omega),if_neg (by omega),h,if_neg (by omega),if_neg (by omega)]
end
section
variable {α : Type} [Inhabited α] {lt : α->α->Bool}
def kH (lt:α->α->Bool) (a m b:Nat) (l:List α):Nat :=
 if(a+b) / 2<m then hlf (fun c=>!lt (nth l ((a+b) / 2+m - 1 - c)) (nth l c)) ((a+b) / 2+m - b) ((a+b) / 2)
 else hlf (fun c=>!lt (nth l ((a+b) / 2+m - 1 - c)) (nth l c)) a m
def zKj (s m mid:Nat) (l:List α):List α :=
 if s<m/\m<mid+m - s then rot m (m - s) (mid+m - s - m) l else l
def zAt (lt:α->α->Bool):Nat->Nat->Nat->Nat->List α->List α
 | 0,_,_,_,l=>l
 | f+1,a,m,b,l =>
  if m - a=1 then mvU (hlf (fun h=>lt (nth l h) (nth l a)) m b - 1 - a) a l
  else if b - m=1 then mvD (m - hlf (fun h=>!lt (nth l m) (nth l h)) a m) m l
  else
   let s:=kH lt a m b l
   let e:=(a+b) / 2+m - s
   let l2:=if a<s/\s<(a+b) / 2 then zAt lt f a s ((a+b) / 2) (zKj s m ((a+b) / 2) l) else zKj s m ((a+b) / 2) l
   if(a+b) / 2<e/\e<b then zAt lt f ((a+b) / 2) e b l2 else l2
theorem sym1 (O:Ordr lt) {a b:Nat} {l:List α} (hab:a+1<b) (hb:b<=l.length) (h2:Srt lt (a+1) b l):Wit a b l (mvU (hlf (fun h=>lt (nth l h) (nth l a)) (a+1) b - 1 - a) a l)/\Srt lt a b (mvU (hlf (fun h=>lt (nth l h) (nth l a)) (a+1) b - 1 - a) a l):=by
 obtain⟨q1,q2,q3⟩:=zDx (p:=fun h=>lt (nth l h) (nth l a)) (a+1) b (by omega)
 obtain⟨q4,q5⟩:=q3 (fun x y h1 hxy hy hp=>by
  cases hc:lt (nth l x) (nth l a)
  ·have:=O.ntr hc (h2 x y h1 hxy hy);have hp':lt (nth l y) (nth l a)=true:=hp;rw[hp'] at this;cases this
  ·rfl)
 generalize hlf (fun h=>lt (nth l h) (nth l a)) (a+1) b=i at *
 obtain⟨w,m1,m2⟩:=zWz (n:=i - 1 - a) (k:=a) (l:=l) (by omega);refine⟨w.wide (by omega) (by omega),fun p q hp hpq hq=>?_⟩;rw[show a+(i - 1 - a)=i - 1 by omega] at *
 by_cases c1:q<i - 1
 ·rw[m1 p hp (by omega),m1 q (by omega) c1]
  exact h2 _ _ (by omega) (by omega) (by omega)
 ·by_cases c2:q=i - 1
  ·subst c2
   rw[m2]
   by_cases c3:p=i - 1
   ·subst c3;rw[m2];exact O.rfl' _
   ·rw[m1 p hp (by omega)]
    exact O.asym (q4 (p+1) (by omega) (by omega))
  ·rw[w.out q (by omega)]
   by_cases c3:p<i - 1
   ·rw[m1 p hp c3];exact h2 _ _ (by omega) (by omega) (by omega)
   ·by_cases c4:p=i - 1
    ·subst c4;rw[m2];exact q5 q (by omega) hq
    ·rw[w.out p (by omega)];exact h2 _ _ (by omega) hpq hq
theorem sym2 (O:Ordr lt) {a m:Nat} {l:List α} (ham:a<m) (hb:m+1<=l.length) (h1:Srt lt a m l):Wit a (m+1) l (mvD (m - hlf (fun h=>!lt (nth l m) (nth l h)) a m) m l)/\Srt lt a (m+1) (mvD (m - hlf (fun h=>!lt (nth l m) (nth l h)) a m) m l):=by
 obtain⟨q1,q2,q3⟩:=zDx (p:=fun h=>!lt (nth l m) (nth l h)) a m (by omega)
 obtain⟨q4,q5⟩:=q3 (fun x y h2 hxy hy hp=>by
  simp only[Bool.not_eq_true'] at hp ⊢
  exact O.ntr (h1 x y h2 hxy hy) hp)
 generalize hlf (fun h=>!lt (nth l m) (nth l h)) a m=i at *
 obtain⟨w,m1,m2⟩:=zW7 (n:=m - i) (k:=m) (l:=l) (by omega) (by omega);rw[show m - (m - i)=i by omega] at *;refine⟨w.wide (by omega) (by omega),fun p q hp hpq hq=>?_⟩;have q4':∀x,a<=x->x<i->lt (nth l m) (nth l x)=false:=fun x h2 h3=>by simpa using q4 x h2 h3
 have q5':∀x,i<=x->x<m->lt (nth l m) (nth l x)=true:=fun x h2 h3=>by simpa using q5 x h2 h3
 by_cases c1:q<i
 ·rw[w.out p (by omega),w.out q (by omega)];exact h1 _ _ hp hpq (by omega)
 ·by_cases c2:q=i
  ·subst c2
   rw[m2]
   by_cases c3:p=q
   ·subst c3;rw[m2];exact O.rfl' _
   ·rw[w.out p (by omega)];exact q4' p hp (by omega)
  ·rw[m1 q (by omega) (by omega)]
   by_cases c3:p<i
   ·rw[w.out p (by omega)];exact h1 _ _ hp (by omega) (by omega)
   ·by_cases c4:p=i
    ·subst c4;rw[m2];exact O.asym (q5' _ (by omega) (by omega))
    ·rw[m1 p (by omega) (by omega)];exact h1 _ _ (by omega) (by omega) (by omega)
theorem qCm (O:Ordr lt) {a m b:Nat} {l:List α} (h1:a<m) (h2:m<b) (s1:Srt lt a m l) (s2:Srt lt m b l) :
  a<=kH lt a m b l/\kH lt a m b l<=m/\kH lt a m b l<=(a+b) / 2/\m<=(a+b) / 2+m - kH lt a m b l/\(a+b) / 2+m - kH lt a m b l<=b /\
  (∀x y,a<=x->x<kH lt a m b l->(a+b) / 2+m - kH lt a m b l<=y->y<b->lt (nth l y) (nth l x)=false) /\
  (∀x y,m<=x->x<(a+b) / 2+m - kH lt a m b l->kH lt a m b l<=y->y<m->lt (nth l y) (nth l x)=false):=by
 have key:∀lo hi s,lo<=hi->a<=lo->hi<=m->hi<=(a+b) / 2->(a+b) / 2+m - lo<=b->m<=(a+b) / 2+m - hi->(lo=a\/(a+b) / 2+m - lo=b)->(hi=m\/(a+b) / 2+m - hi=m) ->
   s=hlf (fun c=>!lt (nth l ((a+b) / 2+m - 1 - c)) (nth l c)) lo hi->a<=s/\s<=m/\s<=(a+b) / 2/\m<=(a+b) / 2+m - s/\(a+b) / 2+m - s<=b /\
   (∀x y,a<=x->x<s->(a+b) / 2+m - s<=y->y<b->lt (nth l y) (nth l x)=false)/\(∀x y,m<=x->x<(a+b) / 2+m - s->s<=y->y<m->lt (nth l y) (nth l x)=false):=by
  intro lo hi s g1 g2 g3 g4 g5 g6 g7 g8 hs;obtain⟨q1,q2,q3⟩:=zDx (p:=fun c=>!lt (nth l ((a+b) / 2+m - 1 - c)) (nth l c)) lo hi g1;rw[<-hs] at q1 q2 q3
  obtain⟨q4,q5⟩:=q3 (fun x y hx hxy hy hp=>by
   simp only[Bool.not_eq_true'] at hp ⊢;have e1:=s1 x y (by omega) hxy (by omega);have e2:=s2 ((a+b) / 2+m - 1 - y) ((a+b) / 2+m - 1 - x) (by omega) (by omega) (by omega)
   exact O.ntr (O.ntr e1 hp) e2)
  refine⟨by omega,by omega,by omega,by omega,by omega,fun x y hx1 hx2 hy1 hy2=>?_,fun x y hx1 hx2 hy1 hy2=>?_⟩
  ·have hlo:lo<=s - 1:=by omega
   have e0:=q4 (s - 1) hlo (by omega);simp only[Bool.not_eq_true'] at e0;rw[show(a+b) / 2+m - 1 - (s - 1)=(a+b) / 2+m - s by omega] at e0;exact O.ntr (O.ntr (s1 x (s - 1) hx1 (by omega) (by omega)) e0) (s2 _ y (by omega) hy1 hy2)
  ·have e0:=q5 s (by omega) (by omega)
   simp only[Bool.not_eq_false'] at e0;have e0:=O.asym e0;exact O.ntr (O.ntr (s2 x ((a+b) / 2+m - 1 - s) hx1 (by omega) (by omega)) e0) (s1 s y (by omega) hy1 hy2)
 unfold kH;split
 ·exact key _ _ _ (by omega) (by omega) (by omega) (by omega) (by omega) (by omega) (.inr (by omega)) (.inr (by omega)) rfl
 ·exact key _ _ _ (by omega) (by omega) (by omega) (by omega) (by omega) (by omega) (.inl rfl) (.inl rfl) rfl
theorem zQ1 {s m mid:Nat} {l:List α} (hs:s<=mid) (hs2:s<=m) (he:mid+m - s<=l.length) :
  (zKj s m mid l).Perm l/\∀k,nth (zKj s m mid l) k=if s<=k/\k<mid then nth l (k+(m - s)) else if mid<=k/\k<mid+m - s then nth l (k+s - mid) else nth l k:=by
 unfold zKj;split
 ·rename_i h
  obtain⟨p,q⟩:=qAr (m:=m) (m - s) (mid+m - s - m) l (by omega) (by omega);refine⟨p,fun k=>?_⟩;rw[q k]
  by_cases c1:s<=k/\k<mid
  ·rw[if_pos c1,if_pos (by omega)]
  ·rw[if_neg c1,if_neg (by omega)]
   by_cases c2:mid<=k/\k<mid+m - s
   ·rw[if_pos c2,if_pos (by omega)];congr 1;omega
   ·rw[if_neg c2,if_neg (by omega)]
 ·rename_i h
  refine⟨.refl _,fun k=>?_⟩
  by_cases c1:s<=k/\k<mid
  ·rw[if_pos c1];congr 1;omega
  ·rw[if_neg c1]
   by_cases c2:mid<=k/\k<mid+m - s
   ·rw[if_pos c2];congr 1;omega
   ·rw[if_neg c2]
theorem zKh (O:Ordr lt):∀(f a m b:Nat) (l:List α),b - a<=f->a<m->m<b->b<=l.length->Srt lt a m l->Srt lt m b l->Wit a b l (zAt lt f a m b l)/\Srt lt a b (zAt lt f a m b l)
 | 0,a,m,b,l,hf,h1,h2,hb,s1,s2=>by omega
 | f+1,a,m,b,l,hf,h1,h2,hb,s1,s2=>by
  unfold zAt;split
  ·rename_i h
   obtain rfl:m=a+1:=by omega
   exact sym1 O (by omega) hb s2
  ·split
   ·rename_i h
    obtain rfl:b=m+1:=by omega
    exact sym2 O h1 hb s1
   ·rename_i n1 n2
    obtain⟨r1,r2,r3,r4,r5,r6,r7⟩:=qCm O h1 h2 s1 s2;simp only
    generalize kH lt a m b l=s at *
    generalize hmid:(a+b) / 2=mid at *
    obtain⟨p,hn⟩:=zQ1 (s:=s) (m:=m) (mid:=mid) (l:=l) r3 r2 (by omega)
    generalize zKj s m mid l=l1 at *
    have w1:Wit a b l l1:=by
     refine⟨p,fun k hk=>?_,fun k ha hk=>?_⟩
     ·rw[hn k,if_neg (by omega),if_neg (by omega)]
     ·rw[hn k]
      by_cases c1:s<=k/\k<mid
      ·rw[if_pos c1];exact⟨_,by omega,by omega,rfl⟩
      ·rw[if_neg c1]
       by_cases c2:mid<=k/\k<mid+m - s
       ·rw[if_pos c2];exact⟨_,by omega,by omega,rfl⟩
       ·rw[if_neg c2];exact⟨_,ha,hk,rfl⟩
    have t1:Srt lt a s l1:=fun i j g1 g2 g3=>by
     rw[hn i,hn j,if_neg (by omega),if_neg (by omega),if_neg (by omega),if_neg (by omega)];exact s1 i j g1 g2 (by omega)
    have t2:Srt lt s mid l1:=fun i j g1 g2 g3=>by
     rw[hn i,hn j,if_pos (by omega),if_pos (by omega)];exact s2 _ _ (by omega) (by omega) (by omega)
    have t3:Srt lt mid (mid+m - s) l1:=fun i j g1 g2 g3=>by
     rw[hn i,hn j,if_neg (by omega),if_pos (by omega),if_neg (by omega),if_pos (by omega)];exact s1 _ _ (by omega) (by omega) (by omega)
    have t4:Srt lt (mid+m - s) b l1:=fun i j g1 g2 g3=>by
     rw[hn i,hn j,if_neg (by omega),if_neg (by omega),if_neg (by omega),if_neg (by omega)];exact s2 _ _ (by omega) (by omega) (by omega)
    have tc:∀x y,a<=x->x<mid->mid<=y->y<b->lt (nth l1 y) (nth l1 x)=false:=fun x y g1 g2 g3 g4=>by
     by_cases c1:x<s
     ·rw[show nth l1 x=nth l x by rw[hn x,if_neg (by omega),if_neg (by omega)]]
      by_cases c2:y<mid+m - s
      ·rw[hn y,if_neg (by omega),if_pos (by omega)];exact s1 _ _ (by omega) (by omega) (by omega)
      ·rw[hn y,if_neg (by omega),if_neg (by omega)];exact r6 _ _ (by omega) (by omega) (by omega) (by omega)
     ·rw[show nth l1 x=nth l (x+(m - s)) by rw[hn x,if_pos (by omega)]]
      by_cases c2:y<mid+m - s
      ·rw[hn y,if_neg (by omega),if_pos (by omega)];exact r7 _ _ (by omega) (by omega) (by omega) (by omega)
      ·rw[hn y,if_neg (by omega),if_neg (by omega)];exact s2 _ _ (by omega) (by omega) (by omega)
    have hl1:=w1.len
    have A:Wit a mid l1 (if a<s/\s<mid then zAt lt f a s mid l1 else l1)/\Srt lt a mid (if a<s/\s<mid then zAt lt f a s mid l1 else l1):=by
     split
     ·rename_i h
      exact zKh O f a s mid l1 (by omega) h.1 h.2 (by omega) t1 t2
     ·rename_i h
      refine⟨Wit.refl ..,?_⟩
      by_cases c:s=a
      ·subst c;exact t2
      ·obtain rfl:s=mid:=by omega
       exact t1
    generalize (if a<s/\s<mid then zAt lt f a s mid l1 else l1)=l2 at *
    obtain⟨w2,u1⟩:=A;have hl2:=w2.len;have t3':=t3.out w2 (.inr (Nat.le_refl _));have t4':=t4.out w2 (.inr (by omega))
    have B:Wit mid b l2 (if mid<mid+m - s/\mid+m - s<b then zAt lt f mid (mid+m - s) b l2 else l2)/\Srt lt mid b (if mid<mid+m - s/\mid+m - s<b then zAt lt f mid (mid+m - s) b l2 else l2):=by
     split
     ·rename_i h
      exact zKh O f mid (mid+m - s) b l2 (by omega) h.1 h.2 (by omega) t3' t4'
     ·rename_i h
      refine⟨Wit.refl ..,?_⟩
      by_cases c:mid+m - s=b
      ·rw[<-c];exact t3'
      ·have:mid=mid+m - s:=by omega
       rw[<-this] at t4';exact t4'
    generalize (if mid<mid+m - s/\mid+m - s<b then zAt lt f mid (mid+m - s) b l2 else l2)=l3 at *
    obtain⟨w3,u2⟩:=B;refine⟨(w1.trans (w2.wide (Nat.le_refl _) (by omega))).trans (w3.wide (by omega) (Nat.le_refl _)),fun x y g1 g2 g3=>?_⟩
    by_cases c1:y<mid
    ·rw[w3.out x (by omega),w3.out y (by omega)];exact u1 x y g1 g2 c1
    ·by_cases c2:mid<=x
     ·exact u2 x y c2 g2 g3
     ·obtain⟨y',y1,y2,e1⟩:=w3.mem y (by omega) g3
      obtain⟨x',x1,x2,e2⟩:=w2.mem x g1 (by omega);rw[e1,w3.out x (by omega),e2,w2.out y' (by omega)];exact tc x' y' x1 x2 y1 y2
end
end Go.Proofs.YtbcgenkegnmkhaaGreat.Ev
namespace Go.Proofs.YtbcgenkegnmkhaaGreat.Ev
set_option linter.unusedSectionVars false
section
variable {α : Type} [Inhabited α] {lt : α->α->Bool}
def blk (g:Nat->List α->List α) (w n:Nat):Nat->Nat->List α->Nat×List α
 | 0,a,l=>(a,l)
 | f+1,a,l=>if a+w<=n then blk g w n f (a+w) (g a l) else(a,l)
theorem zU7 {g:Nat->List α->List α} {w n:Nat} {l0:List α} (hw:1<=w) (hn:n<=l0.length)
  (hg:∀k l',k * w+w<=n->l'.length=l0.length->(∀i,k * w<=i->nth l' i=nth l0 i)->Wit (k * w) (k * w+w) l' (g (k * w) l')/\Srt lt (k * w) (k * w+w) (g (k * w) l')) :
  ∀(f k:Nat) (l':List α),n<=f+k * w->k * w<=n->Wit 0 (k * w) l0 l'->(∀j,j<k->Srt lt (j * w) (j * w+w) l') ->
  ∃K,(blk g w n f (k * w) l').1=K * w/\K * w<=n/\n<K * w+w/\Wit 0 (K * w) l0 (blk g w n f (k * w) l').2/\∀j,j<K->Srt lt (j * w) (j * w+w) (blk g w n f (k * w) l').2
 | 0,k,l',h1,h2,h3,h4=>⟨k,rfl,h2,by omega,h3,h4⟩
 | f+1,k,l',h1,h2,h3,h4=>by
  unfold blk;split
  ·rename_i h
   obtain⟨w1,s1⟩:=hg k l' h h3.len (fun i hi=>h3.out i (.inr hi));rw[show k * w+w=(k+1) * w by rw[Nat.succ_mul]] at *;refine zU7 hw hn hg f (k+1) _ (by rw[Nat.succ_mul];omega) h ((h3.wide (Nat.le_refl _) (by rw[Nat.succ_mul];omega)).trans (w1.wide (Nat.zero_le _) (Nat.le_refl _))) (fun j hj=>?_)
   by_cases e:j=k
   ·subst e;rw[show j * w+w=(j+1) * w by rw[Nat.succ_mul]];exact s1
   ·have hjk:j * w+w<=k * w:=by
     rw[<-Nat.succ_mul];exact Nat.mul_le_mul_right _ (by omega)
    exact(h4 j (by omega)).out w1 (.inl hjk)
  ·rename_i h
   exact⟨k,rfl,h2,by omega,h3,h4⟩
def Blks (lt:α->α->Bool) (w n:Nat) (l:List α):Prop:=∀k,k * w<n->Srt lt (k * w) (min (k * w+w) n) l
def qHo (lt:α->α->Bool) (n:Nat) (l:List α):List α :=
 ins lt (blk (fun a l=>ins lt a (a+20) l) 20 n n 0 l).1 n (blk (fun a l=>ins lt a (a+20) l) 20 n n 0 l).2
theorem qCx (O:Ordr lt) {n:Nat} {l:List α} (hn:n<=l.length):Wit 0 n l (qHo lt n l)/\Blks lt 20 n (qHo lt n l):=by
 unfold qHo;obtain⟨K,e,h1,h2,w1,s1⟩:=zU7 (lt:=lt) (g:=fun a l=>ins lt a (a+20) l) (w:=20) (n:=n) (l0:=l) (by omega) hn (fun k l' hk hl _=>zM8 O (by omega)) n 0 l (by omega) (by omega) (by rw[Nat.zero_mul];exact Wit.refl ..) (fun j hj=>by omega);rw[Nat.zero_mul] at e w1 s1;rw[e]
 generalize (blk (fun a l=>ins lt a (a+20) l) 20 n n 0 l).2=l2 at *
 have hl:=w1.len;obtain⟨w2,s2⟩:=zM8 O (a:=K * 20) (b:=n) (l:=l2) (by omega);refine⟨(w1.wide (Nat.le_refl _) h1).trans (w2.wide (Nat.zero_le _) (Nat.le_refl _)),fun k hk=>?_⟩
 by_cases c1:k<K
 ·rw[Nat.min_eq_left (by omega)]
  exact(s1 k c1).out w2 (.inl (by omega))
 ·obtain rfl:k=K:=by omega
  rw[Nat.min_eq_right (by omega)];exact s2
def mrg (lt:α->α->Bool) (w n:Nat) (l:List α):List α :=
 if(blk (fun a l=>zAt lt (2 * w) a (a+w) (a+2 * w) l) (2 * w) n n 0 l).1+w<n then zAt lt (2 * w) (blk (fun a l=>zAt lt (2 * w) a (a+w) (a+2 * w) l) (2 * w) n n 0 l).1 ((blk (fun a l=>zAt lt (2 * w) a (a+w) (a+2 * w) l) (2 * w) n n 0 l).1+w) n (blk (fun a l=>zAt lt (2 * w) a (a+w) (a+2 * w) l) (2 * w) n n 0 l).2
 else(blk (fun a l=>zAt lt (2 * w) a (a+w) (a+2 * w) l) (2 * w) n n 0 l).2
theorem qI5 (O:Ordr lt) {w n:Nat} {l:List α} (hw:1<=w) (hn:n<=l.length) (hB:Blks lt w n l):Wit 0 n l (mrg lt w n l)/\Blks lt (2 * w) n (mrg lt w n l):=by
 unfold mrg;have h2w:∀k,k * (2 * w)=2 * k * w:=fun k=>by rw[Nat.mul_comm 2 k,Nat.mul_assoc]
 have h2s:∀k,(2 * k+1) * w=2 * k * w+w:=fun k=>by rw[Nat.succ_mul]
 obtain⟨K,e,h1,h2,w1,s1⟩:=zU7 (lt:=lt) (g:=fun a l=>zAt lt (2 * w) a (a+w) (a+2 * w) l) (w:=2 * w) (n:=n) (l0:=l) (by omega) hn (fun k l' hk hl hs=>by
  have b1:=hB (2 * k) (by rw[h2w] at hk;omega);have b2:=hB (2 * k+1) (by rw[h2w] at hk;rw[h2s];omega);rw[h2s] at b2;rw[<-h2w] at b1 b2;rw[Nat.min_eq_left (by omega)] at b1 b2
  exact zKh O (2 * w) (k * (2 * w)) (k * (2 * w)+w) (k * (2 * w)+2 * w) l' (by omega) (by omega) (by omega) (by omega)
   (fun i j g1 g2 g3=>by rw[hs i (by omega),hs j (by omega)];exact b1 i j g1 g2 g3)
   (fun i j g1 g2 g3=>by rw[hs i (by omega),hs j (by omega)];exact b2 i j g1 g2 (by omega))) n 0 l (by omega) (by omega) (by rw[Nat.zero_mul];exact Wit.refl ..) (fun j hj=>by omega)
 rw[Nat.zero_mul] at e w1 s1;rw[e]
 generalize (blk (fun a l=>zAt lt (2 * w) a (a+w) (a+2 * w) l) (2 * w) n n 0 l).2=l2 at *
 have hl:=w1.len
 have hlow:∀k l3,k<K->Wit (K * (2 * w)) n l2 l3->Srt lt (k * (2 * w)) (min (k * (2 * w)+2 * w) n) l3:=fun k l3 hk w3=>by
  have hkk:k * (2 * w)+2 * w<=K * (2 * w):=by
   rw[<-Nat.succ_mul];exact Nat.mul_le_mul_right _ (by omega)
  rw[Nat.min_eq_left (by omega)];exact(s1 k hk).out w3 (.inl hkk)
 have hhi:∀k,K<k->¬k * (2 * w)<n:=fun k hk=>by
  have hkk:K * (2 * w)+2 * w<=k * (2 * w):=by
   rw[<-Nat.succ_mul];exact Nat.mul_le_mul_right _ (by omega)
  omega
 split
 ·rename_i hlt
  have b1:=hB (2 * K) (by rw[h2w] at hlt;omega);have b2:=hB (2 * K+1) (by rw[h2w] at hlt;rw[h2s];omega);rw[h2s] at b2;rw[<-h2w] at b1 b2;rw[Nat.min_eq_left (by omega)] at b1;rw[Nat.min_eq_right (by omega)] at b2
  obtain⟨w2,s2⟩:=zKh O (2 * w) (K * (2 * w)) (K * (2 * w)+w) n l2 (by omega) (by omega) hlt (by omega)
   (fun i j g1 g2 g3=>by rw[w1.out i (by omega),w1.out j (by omega)];exact b1 i j g1 g2 g3)
   (fun i j g1 g2 g3=>by rw[w1.out i (by omega),w1.out j (by omega)];exact b2 i j g1 g2 g3)
  refine⟨(w1.wide (Nat.le_refl _) h1).trans (w2.wide (Nat.zero_le _) (Nat.le_refl _)),fun k hk=>?_⟩
  by_cases c1:k<K
  ·exact hlow k _ c1 w2
  ·by_cases c2:k=K
   ·subst c2;rw[Nat.min_eq_right (by omega)];exact s2
   ·exact absurd hk (hhi k (by omega))
 ·rename_i hlt
  refine⟨w1.wide (Nat.le_refl _) h1,fun k hk=>?_⟩
  by_cases c1:k<K
  ·exact hlow k _ c1 (Wit.refl ..)
  ·by_cases c2:k=K
   ·subst c2
    have b1:=hB (2 * k) (by rw[h2w] at hk;omega);rw[<-h2w] at b1;rw[Nat.min_eq_right (by omega)] at b1 ⊢;intro i j g1 g2 g3;rw[w1.out i (by omega),w1.out j (by omega)];exact b1 i j g1 g2 g3
   ·exact absurd hk (hhi k (by omega))
def zVx (lt:α->α->Bool) (n:Nat):Nat->Nat->List α->List α
 | 0,_,l=>l
 | f+1,w,l=>if w<n then zVx lt n f (2 * w) (mrg lt w n l) else l
theorem zU8 (O:Ordr lt) {n:Nat}:∀(f w:Nat) (l:List α),n<=f+w->1<=w->n<=l.length->Blks lt w n l->Wit 0 n l (zVx lt n f w l)/\Srt lt 0 n (zVx lt n f w l)
 | 0,w,l,hf,hw,hn,hB=>by
  refine⟨Wit.refl ..,fun i j g1 g2 g3=>?_⟩;have b:=hB 0 (by omega);rw[Nat.zero_mul,Nat.min_eq_right (by omega)] at b;exact b i j g1 g2 g3
 | f+1,w,l,hf,hw,hn,hB=>by
  unfold zVx;split
  ·rename_i h
   obtain⟨w1,b1⟩:=qI5 O hw hn hB;obtain⟨w2,s2⟩:=zU8 O f (2 * w) _ (by omega) (by omega) (by rw[w1.len];exact hn) b1;exact⟨w1.trans w2,s2⟩
  ·rename_i h
   refine⟨Wit.refl ..,fun i j g1 g2 g3=>?_⟩;have b:=hB 0 (by omega);rw[Nat.zero_mul,Nat.min_eq_right (by omega)] at b;exact b i j g1 g2 g3
def stb (lt:α->α->Bool) (l:List α):List α:=zVx lt l.length l.length 20 (qHo lt l.length l)
theorem zT9 (O:Ordr lt) (l:List α):(stb lt l).Perm l/\Srt lt 0 l.length (stb lt l):=by
 obtain⟨w1,b1⟩:=qCx O (n:=l.length) (l:=l) (Nat.le_refl _);obtain⟨w2,s2⟩:=zU8 O l.length 20 _ (by omega) (by omega) (by rw[w1.len];exact Nat.le_refl _) b1;exact⟨(w1.trans w2).perm,s2⟩
end
end Go.Proofs.YtbcgenkegnmkhaaGreat.Ev
namespace Go.Proofs.YtbcgenkegnmkhaaGreat.Ev
open Go
set_option maxRecDepth 100000
set_option linter.unusedSimpArgs false
set_option linter.unusedVariables false
set_option maxHeartbeats 2000000
section
variable {call : Call} {id base : Nat} {e : List (Nat × V)} {o : List (Nat × Ob)} {n : Nat} {t : TypeId} {K : V->List (Nat × Ob)->Prop}
theorem cI {args:Array Operand} {ts:Array TypeId} {fo:Operand} {f:FuncId} {q m:Nat} {vs ys:List V} {ob:Ob} {o1:List (Nat×Ob)} (hx:kW e args.toList=some (.ref q 0 m::vs):=by exact rfl) (hf:opV e fo=some (.clo f []):=by exact rfl) (hB:cf.inB f=false:=by(rw[zFc];rfl)) (hmd:cf.md f=[.io]:=by(rw[zB7];rfl)) (ho:zO o q=some ob:=by exact rfl) (hb:ob.bx=false:=by rfl) (hl:m=ob.xs.length:=by first|rfl|(simp;done)|(simp;omega))
  (hc:call f (.iol ob.sz ob.xs::vs)=some (.tup [],[.lst true ob.sz ys])) (hal:V.alikeL ob.xs ys=true) (hd:kT o q=o1:=by(simp;rfl)) (hlv:∀s:St,jW [] vs s=some (vs,s,[]):=by intro s;rfl) (hsv:∀s:St,jI s [] vs=some vs:=by intro s;rfl) (hp:xU [.io] (.ref q 0 m::vs)=[]:=by rfl)
  (h:K (.tup []) ((q,⟨false,ob.fx,ob.sz,ys,ob.ver+1⟩)::o1)):opK call cf id base e o n t (.call ⟨.value fo,args,ts⟩) K:=by
 subst hd hl;refine zQ2 hx hf hB rfl (bs:=.iol ob.sz ob.xs::vs) (s1:=⟨e,kT o q,n⟩) (lent:=[(q,ob)]) (asv:=.iol ob.sz ob.xs::vs) (ro:=[.lst true ob.sz ys]) (s2:=⟨e,(q,⟨false,ob.fx,ob.sz,ys,ob.ver+1⟩)::kT o q,n⟩) ?_ ?_ hc rfl ?_ ?_ rfl ?_
 ·rw[hmd,List.append_nil]
  simp only[jW,qU,List.headD_cons,List.tail_cons,ho,hb,if_true,and_self,hlv,List.append_nil]
 ·rw[hmd]
  simp only[jI,List.headD_cons,List.tail_cons,hsv,V.snapA,V.snapP,V.snap,zJ]
 ·rw[hmd,List.append_nil,hp]
  exact⟨.inl rfl,by simp[V.thaw]⟩
 ·simp only[vV,xF,hb,hal,Bool.false_eq_true,if_false,and_self,if_true,xC]
 ·exact h
end
theorem jZ {a b:Int} {c:Nat} (h:a - b=c) (hc:c<4000000000000000000):zEy .sub .i64 a b=some (.int .i64 c):=by
 simp only[zEy];rw[qL (by omega) (by omega),h]
theorem yF {a b:Int} {c:Nat} (h:a+b=c) (hc:c<4000000000000000000):zEy .add .i64 a b=some (.int .i64 c):=by
 simp only[zEy];rw[qL (by omega) (by omega),h]
theorem zVc {a b:Int} {c:Nat} (h:a * b=c) (hc:c<4000000000000000000):zEy .mul .i64 a b=some (.int .i64 c):=by
 simp only[zEy];rw[qL (by omega) (by omega),h]
@[simp] theorem Ct.ne_undC (x:Ct):(x.v=V.und)=False:=by simp[Ct.v]
theorem zOx {a b:Nat}:((a:Int)+(b:Int)).toNat=a+b:=by omega
instance:Inhabited Ct:=⟨⟨0,0,0⟩⟩
theorem bub_t {α:Type} [Inhabited α] {lt:α->α->Bool} {a j:Nat} {l:List α} (h:a<j) (h2:lt (nth l j) (nth l (j - 1))=true):bub lt a j l=bub lt a (j - 1) (swp l j (j - 1)):=by
 obtain⟨k,rfl⟩:∃k,j=k+1:=⟨j - 1,by omega⟩
 conv=>lhs;unfold bub
 rw[if_pos ⟨h,h2⟩];rfl
theorem bub_f {α:Type} [Inhabited α] {lt:α->α->Bool} {a j:Nat} {l:List α} (h:¬(a<j/\lt (nth l j) (nth l (j - 1))=true)):bub lt a j l=l:=by
 cases j with
 | zero=>rfl
 | succ k=>unfold bub;exact if_neg h
theorem rot_0 {α:Type} [Inhabited α] {m i j:Nat} {l:List α} (hi:0<i) (h:i=j):rot m i j l=swR i (m - i) m l:=by
 unfold rot;rw[if_neg (by omega),if_pos h]
theorem rot_1 {α:Type} [Inhabited α] {m i j:Nat} {l:List α} (hj:0<j) (h:j<i):rot m i j l=rot m (i - j) j (swR j (m - i) m l):=by
 conv=>lhs;unfold rot
 rw[if_neg (by omega),if_neg (by omega),if_pos h]
theorem rot_2 {α:Type} [Inhabited α] {m i j:Nat} {l:List α} (hi:0<i) (h:i<j):rot m i j l=rot m i (j - i) (swR i (m - i) (m+j - i) l):=by
 conv=>lhs;unfold rot
 rw[if_neg (by omega),if_neg (by omega),if_neg (by omega)]
section
variable {call : Call} {id base : Nat} {e : List (Nat × V)} {o : List (Nat × Ob)} {n : Nat} {t : TypeId} {K : V->List (Nat × Ob)->Prop}
theorem cvN {ts t':TypeId} {x:Operand} {k0 k k1:IntKind} {a:Int} {c:Nat} (h0:cf.ints ts=some k0:=by exact tys_ok.ints _ _ rfl) (h1:cf.ints t'=some k:=by exact tys_ok.ints _ _ rfl) (hx:opV e x=some (.int k1 a):=by exact rfl) (hc:k.wrap a=c) (h:K (.int k c) o):opK call cf id base e o n t (.convert ts t' x) K:=cv h0 h1 hx (by rw[hc];exact h)
end
theorem zKg {c:Nat} (h:c<4611686018427387904):IntKind.u64.wrap (c:Int)=c:=by
 unfold IntKind.wrap;simp[IntKind.bits,IntKind.signed];omega
theorem shr1 {c:Nat}:zF5 .shr (.int .u64 (c:Int)) (.int .u64 1)=some (.int .u64 ((c / 2:Nat):Int)):=by
 simp only[zF5,if_neg (show ¬(1:Int)<0 by omega),IntKind.bits];rw[Int.fdiv_eq_ediv_of_nonneg _ (by decide)];simp
theorem qD3 {p:Nat->Bool} {i j:Nat} (h:i<j) (hp:p ((i+j) / 2)=true):hlf p i j=hlf p ((i+j) / 2+1) j:=by
 conv=>lhs;unfold hlf
 rw[dif_pos h,if_pos hp]
theorem qF5 {p:Nat->Bool} {i j:Nat} (h:i<j) (hp:p ((i+j) / 2)=false):hlf p i j=hlf p i ((i+j) / 2):=by
 conv=>lhs;unfold hlf
 rw[dif_pos h,if_neg (by simp[hp])]
theorem qDc {p:Nat->Bool} {i j:Nat} (h:¬i<j):hlf p i j=i:=by
 unfold hlf;rw[dif_neg h]
end Go.Proofs.YtbcgenkegnmkhaaGreat.Ev
namespace Go.Proofs.YtbcgenkegnmkhaaGreat.Ev
open Go
set_option maxRecDepth 100000
set_option linter.unusedSimpArgs false
set_option linter.unusedVariables false
set_option maxHeartbeats 2000000
def bys (c:List Int):List V:=c.map fun x=>V.int .u8 x
@[simp] theorem bys_len (c:List Int):(bys c).length=c.length:=by simp[bys]
@[simp] theorem qHp (c:List Int):V.shareL (bys c)=bys c:=by
 induction c with
 | nil=>rfl
 | cons x c ih=>simp only[bys,List.map_cons,V.shareL,V.share] at ih ⊢;rw[ih]
def qZ (c:List Int) (a:Nat):V:=.agg [.lst false 0 (bys c),.int .i64 a]
@[simp] theorem qHq (c:List Int) (a:Nat):(qZ c a).cells=2:=rfl
@[simp] theorem zM3 (c:List Int) (a:Nat):V.mention (qZ c a)=[]:=rfl
@[simp] theorem zZ8 (c:List Int) (a:Nat) (ρ:Nat->Option Nat) (vr:Nat->Nat):V.ren ρ vr (qZ c a)=qZ c a:=rfl
@[simp] theorem srcV_fzI (c:List Int) (a:Nat) (s:St):V.fzI (qZ c a) s=some (qZ c a,s):=by simp[qZ,V.fzI,V.fzIL,V.fz,mp]
def okS (c:List Int):Prop:=c.length<=1048576/\∀x∈c,0<=x/\x<256
section
variable {call : Call} {id base : Nat} {e : List (Nat × V)} {o : List (Nat × Ob)} {n : Nat} {t : TypeId} {K : V->List (Nat × Ob)->Prop}
theorem cP {args:Array Operand} {ts:Array TypeId} {fo:Operand} {f:FuncId} {q a a' id':Nat} {c:List Int} {vs asv:List V} {ob:Ob} {o1 o2:List (Nat×Ob)} {rv v:V} {sr:Option (List V)} (hx:kW e args.toList=some (.ptr q 0 []::vs):=by exact rfl) (hf:opV e fo=some (.clo f []):=by exact rfl) (hB:cf.inB f=false:=by(rw[zFc];rfl)) (hmd:cf.md f=[.io]:=by(rw[zB7];rfl)) (ho:zO o q=some ob:=by exact rfl) (hb:ob.bx=true:=by rfl) (hfx:ob.fx=false:=by rfl) (hxs:ob.xs=[qZ c a]:=by rfl)
  (hd:kT o q=o1:=by(simp;rfl)) (hlv:∀s:St,jW [] vs s=some (vs,s,[]):=by intro s;rfl) (hs:jI ⟨[],o1,n⟩ [] vs=sr:=by(simp;rfl)) (hsr:sr=some asv:=by first|rfl|(simp[*]<;>fail)) (hc:call f (.iop (qZ c a)::asv)=some (rv,[qZ c a'])) (hid:id=id':=by((try simp);rfl))
  (hw:((xU [.io] (.ptr q 0 []::vs)).isEmpty=true\/rv.tidy=true/\V.tidyL ([qZ c a']:List V)=true)/\(rv.thaw id').2.2<=id'+32:=by(simp[xU,V.mention,V.mentionL])) (hv:(rv.thaw id').1=v:=by(simp;rfl)) (ho2:(rv.thaw id').2.1++((q,⟨true,ob.fx,ob.sz,[qZ c a'],ob.ver+1⟩)::o1)=o2:=by(simp;rfl))
  (h:K v o2):opK call cf id base e o n t (.call ⟨.value fo,args,ts⟩) K:=by
 subst hd hid hv ho2;rw[<-hs] at hsr;refine zQ2 hx hf hB rfl (bs:=.iop (qZ c a)::vs) (s1:=⟨e,kT o q,n⟩) (lent:=[(q,ob)]) (asv:=.iop (qZ c a)::asv) (ro:=[qZ c a']) (s2:=⟨e,(q,⟨true,ob.fx,ob.sz,[qZ c a'],ob.ver+1⟩)::kT o q,n⟩) ?_ ?_ hc rfl ?_ ?_ rfl h
 ·rw[hmd,List.append_nil]
  simp only[jW,qU,List.headD_cons,List.tail_cons,ho,hxs,hb,hfx,if_true,and_self,List.isEmpty_nil,hlv,List.append_nil,qZ,V.fzI,V.fzIL,V.fz,zJ]
 ·rw[hmd]
  have:=zK3 e ⟨[],kT o q,n⟩ [] vs
  rw[hsr] at this;simp only[jI,List.headD_cons,List.tail_cons,mp];rw[show jI ⟨e,kT o q,n⟩ [] vs=some asv from this]
  rfl
 ·rw[hmd,List.append_nil]
  exact hw
 ·simp only[vV,xF,hb,hxs,if_true,xC,qZ]
  rfl
theorem cPT {args:Array Operand} {ts:Array TypeId} {fo:Operand} {f:FuncId} {q q2 m a a':Nat} {c:List Int} {ob ob2:Ob} {o1:List (Nat×Ob)} {k:IntKind} {r:Int} (hx:kW e args.toList=some [.ptr q 0 [],.ref q2 0 m]:=by exact rfl) (hf:opV e fo=some (.clo f []):=by exact rfl) (hB:cf.inB f=false:=by(rw[zFc];rfl)) (hmd:cf.md f=[.io,.take]:=by(rw[zB7];rfl)) (ho:zO o q=some ob:=by exact rfl) (hb:ob.bx=true:=by rfl) (hfx:ob.fx=false:=by rfl) (hxs:ob.xs=[qZ c a]:=by rfl)
  (h2:zO (kT o q) q2=some ob2:=by(simp;rfl)) (hb2:ob2.bx=false:=by rfl) (hf2:ob2.fx=false:=by rfl) (hm:m=ob2.xs.length:=by first|rfl|simp) (hd:kT (kT o q) q2=o1:=by(simp;rfl)) (hc:call f [.iop (qZ c a),.lst true ob2.sz ob2.xs]=some (.int k r,[qZ c a']))
  (h:K (.int k r) ((q,⟨true,ob.fx,ob.sz,[qZ c a'],ob.ver+1⟩)::o1)):opK call cf id base e o n t (.call ⟨.value fo,args,ts⟩) K:=by
 subst hd hm
 have hg:St.give ⟨e,kT o q,n⟩ q2 0 ob2.xs.length=some (ob2.sz,ob2.xs,⟨e,kT (kT o q) q2,n⟩):=by
  simp only[St.give,h2,hb2,hf2,Nat.zero_add,Nat.le_refl,and_self,if_true,List.drop_zero,List.take_length]
 have hz:V.fz (.ref q2 0 ob2.xs.length) ⟨e,kT o q,n⟩=some (.lst true ob2.sz ob2.xs,⟨e,kT (kT o q) q2,n⟩):=by
  simp only[V.fz,hg,zJ]
 refine zQ2 hx hf hB rfl (bs:=[.iop (qZ c a),.lst true ob2.sz ob2.xs]) (s1:=⟨e,kT (kT o q) q2,n⟩) (lent:=[(q,ob)]) (asv:=[.iop (qZ c a),.lst true ob2.sz ob2.xs]) (ro:=[qZ c a']) (s2:=⟨e,(q,⟨true,ob.fx,ob.sz,[qZ c a'],ob.ver+1⟩)::kT (kT o q) q2,n⟩) ?_ ?_ hc rfl ?_ ?_ rfl h
 ·rw[hmd,List.append_nil]
  simp only[jW,qU,List.headD_cons,List.tail_cons,ho,hxs,hb,hfx,if_true,and_self,List.isEmpty_nil,List.append_nil,qZ,V.fzI,V.fzIL,V.fz,hg,zJ,V.argOk]
 ·rw[hmd]
  simp only[jI,List.headD_cons,List.tail_cons,zJ]
 ·rw[hmd,List.append_nil]
  exact⟨.inl rfl,by simp[V.thaw]⟩
 ·simp only[vV,xF,hb,hxs,if_true,xC,qZ]
  rfl
end
def jQ (c:List Int) (a:Nat) (n:Int):Int :=
 if n<1 then 0 else if c.length=0 then((a:Int) * 7) % n else
  let v:=c.getD (a % c.length) 0+(a / c.length:Nat) * 37
  (if 200<n then v * 251+c.getD ((a+1) % c.length) 0 * 13+a else v) % n
theorem jL {c:List Int} {a:Nat} {n:Int} (h:1<=n):0<=jQ c a n/\jQ c a n<n:=by
 unfold jQ;rw[if_neg (by omega)];split
 ·exact⟨Int.emod_nonneg _ (by omega),Int.emod_lt_of_pos _ (by omega)⟩
 ·exact⟨Int.emod_nonneg _ (by omega),Int.emod_lt_of_pos _ (by omega)⟩
theorem zX6 {c:List Int} (h:okS c) {i:Nat}:0<=c.getD i 0/\c.getD i 0<256:=by
 rcases Nat.lt_or_ge i c.length with hi|hi
 ·have:=h.2 (c[i]) (List.getElem_mem hi)
  simpa [List.getD,hi] using this
 ·have:c.getD i 0=0:=by simp[List.getD,List.getElem?_eq_none hi]
  omega
theorem zW2 {c:List Int} {i:Nat} (h:i<c.length):(bys c)[i]? = some (.int .u8 (c.getD i 0)):=by
 simp[bys,h,List.getD]
theorem qB9 {a b:Nat} {x y:Int} (h1:x=a) (h2:y=b) (hb:0<b):zEy .rem .i64 x y=some (.int .i64 ((a % b:Nat):Int)):=by
 subst h1 h2;simp only[zEy,if_neg (show ¬(b:Int)=0 by omega)]
 rfl
theorem qJ3 {a b q:Nat} {x y:Int} (h1:x=a) (h2:y=b) (hb:0<b) (hq:a / b=q) (ha:q<4000000000000000000):zEy .quo .i64 x y=some (.int .i64 (q:Int)):=by
 subst h1 h2;simp only[zEy,if_neg (show ¬(b:Int)=0 by omega)];rw[show(a:Int).tdiv b=((a / b:Nat):Int) from rfl,hq,qL (by omega) (by omega)]
theorem zTa {x n:Int} (h0:0<=x) (hn:0<n):zEy .rem .i64 x n=some (.int .i64 (x % n)):=by
 simp only[zEy,if_neg (show ¬n=0 by omega)];rw[Int.tmod_eq_emod_of_nonneg h0]
theorem zCt {a b c:Int} (h:a+b=c) (h1:-4000000000000000000<=c) (h2:c<4000000000000000000):zEy .add .i64 a b=some (.int .i64 c):=by
 simp only[zEy];rw[h,qL (by omega) (by omega)]
theorem zJs {a b c:Int} (h:a * b=c) (h1:-4000000000000000000<=c) (h2:c<4000000000000000000):zEy .mul .i64 a b=some (.int .i64 c):=by
 simp only[zEy];rw[h,qL (by omega) (by omega)]
theorem qF (c:List Int) (a:Nat) (n:Int) (hc:okS c) (ha:a<1000000000) (hn:n<4000000000000000000):oc.call 37 [.iop (qZ c a),.int .i64 n]=some (.int .i64 (jQ c a n),[qZ c (a+1)]):=by
 refine qA rfl cd37 rfl rfl rfl (by simp;rfl) (by simp;rfl) ?_;have hc1:=hc.1;obtain⟨k,hk⟩:∃k,c.length=k:=⟨_,rfl⟩;have hB:=zX6 hc (i:=a % k);have hB2:=zX6 hc (i:=(a+1) % k);obtain⟨q,hq0⟩:∃q,a / k=q:=⟨_,rfl⟩;have hq:q<=a:=by rw[<-hq0];exact Nat.div_le_self ..
 refine wa_ (zB (W3 (h:=nE (h:=zA (wa_ (zB (wM (h:=wM (h:=w_ (nc (h:=w_ (f_ (h:=w_ (l_ (h:=?_)))))))))))))));refine w_ ?_;refine b_ (hv:=yF (c:=a+1) (by simp) (by omega)) (h:=?_);refine w_ (nc (h:=w_ (f_ (h:=w0 (s_ (h:=nE (h:=zA (wa_ (wa_ (zB (wM (h:=w_ (b_ (h:=nE (h:=zA ?_)))))))))))))));refine c_ (h1:=?_) (h2:=?_)
 rotate_right 1
 focus
  intro c1;first|exact dn c1|(
   have d1:=c1;try simp at d1
   refine zC ?_)
 rotate_right 1
 focus
  intro c1;first|exact dn c1|(
   have d1:=c1;try simp at d1
   refine wa_ (zB (W3 (h:=nE (h:=zA (zF ?_))))))
 all_goals first|refine zK ?_|(
  refine zA ?_;refine wa_ (zB (wM (h:=w_ (nc (h:=w_ (f_ (h:=w_ (l_ (h:=w_ ?_)))))))));refine b_ (hv:=jZ (c:=a) (by simp) (by omega)) (h:=?_);refine W3 (h:=nE (h:=zA (wa_ (zB (wM (h:=w_ (nc (h:=w_ (f_ (h:=w_ (l_ (h:=w_ (le (h:=W3 (h:=nE (h:=?_))))))))))))))));refine zA (wa_ (wa_ (zB (wM (h:=w_ (bE (h:=nE (h:=zA ?_))))))));refine c_ (h1:=?_) (h2:=?_)
  rotate_right 1
  focus
   intro c2;first|exact dn c2|(
    have d2:=c2;try simp at d2
    have hk0:0<k:=(by have:=List.length_pos_iff.2 (show c≠[] by simpa using c2);omega);have hkn:¬k=0:=(by omega);have hm1:=Nat.mod_lt a hk0;have hm2:=Nat.mod_lt (a+1) hk0;have g1:(bys c)[a % k]? = _:=zW2 (by omega);have g2:(bys c)[(a+1) % k]? = _:=zW2 (by omega);refine zC ?_)
  rotate_right 1
  focus
   intro c2;first|exact dn c2|(
    have d2:=c2;try simp at d2
    have hk1:k=0:=(by have h0:c=[]:=(by simpa using c2);rw[h0] at hk;exact hk.symm);refine wa_ (zB (wM (h:=w_ ?_)));refine b_ (hv:=zJs (c:=(a:Int) * 7) rfl (by omega) (by omega)) (h:=?_);refine wM (h:=w_ ?_);refine b_ (hv:=zTa (by omega) (by omega)) (h:=?_);refine W3 (h:=nE (h:=zA (zF ?_))))
  all_goals first|refine zK ?_|(
   refine zA ?_;refine wa_ (qE (yM (h:=y_ (nc (h:=ax_ (h:=y_ (f_ (h:=ax_ (h:=y_ (l_ (h:=ax_ (h:=yM (h:=yM (h:=y_ ?_))))))))))))));refine b_ (hv:=qB9 (a:=a) (b:=k) rfl (by simp[hk]) hk0) (h:=?_);refine ax_ (h:=y_ (x_ (h:=ax_ (h:=y_ (l_ (h:=ax_ (h:=y_ ?_)))))));refine cv (h:=?_);refine ax_ (h:=yM (h:=yM (h:=y_ ?_)));refine b_ (hv:=qJ3 (a:=a) (b:=k) rfl (by simp[hk]) hk0 hq0 (by omega)) (h:=?_);refine ax_ (h:=y_ ?_);refine b_ (hv:=zJs (c:=(q:Int) * 37) rfl (by omega) (by omega)) (h:=?_);refine ax_ (h:=y_ ?_);refine b_ (hv:=zCt (c:=c.getD (a % k) 0+(q:Int) * 37) (by rw[qL (by omega) (by omega)]) (by omega) (by omega)) (h:=?_);refine ax_ (h:=y_ (a_ (h:=ax_ (h:=qO (ed (h:=zA (wa_ (wa_ (zB (wM (h:=w_ (b_ (h:=nE (h:=zA ?_))))))))))))));refine c_ (h1:=?_) (h2:=?_)
   rotate_right 1
   focus
    intro c3;first|exact dn c3|(
     have d3:=c3;try simp at d3
     refine zC ?_)
   rotate_right 1
   focus
    intro c3;first|exact dn c3|(
     have d3:=c3;try simp at d3
     refine qE (yM (h:=y_ ?_));refine b_ (hv:=zJs (c:=(c.getD (a % k) 0+(q:Int) * 37) * 251) rfl (by omega) (by omega)) (h:=?_);refine ax_ (h:=yM (h:=y_ (nc (h:=ax_ (h:=y_ (f_ (h:=ax_ (h:=y_ (l_ (h:=ax_ (h:=yM (h:=y_ ?_))))))))))));refine b_ (hv:=yF (c:=a+1) (by simp) (by omega)) (h:=?_);refine ax_ (h:=yM (h:=y_ ?_));refine b_ (hv:=qB9 (a:=a+1) (b:=k) rfl (by simp[hk]) hk0) (h:=?_);refine ax_ (h:=y_ (x_ (h:=ax_ (h:=y_ (l_ (h:=ax_ (h:=y_ ?_)))))));refine cv (h:=?_);refine ax_ (h:=y_ ?_);refine b_ (hv:=zJs (c:=c.getD ((a+1) % k) 0 * 13) (by rw[qL (by omega) (by omega)]) (by omega) (by omega)) (h:=?_);refine ax_ (h:=y_ ?_);refine b_ (hv:=zCt (c:=(c.getD (a % k) 0+(q:Int) * 37) * 251+c.getD ((a+1) % k) 0 * 13) rfl (by omega) (by omega)) (h:=?_);refine ax_ (h:=yM (h:=y_ ?_));refine b_ (hv:=zCt (c:=(c.getD (a % k) 0+(q:Int) * 37) * 251+c.getD ((a+1) % k) 0 * 13+(a:Int)) rfl (by omega) (by omega)) (h:=?_);refine ax_ (h:=y_ (a_ (h:=ax_ (h:=qO (ed (h:=?_)))))))
   all_goals first
   | (
    refine zA ?_;refine wa_ (zB (wM (h:=wM (h:=w_ ?_))));refine b_ (hv:=zTa (by omega) (by omega)) (h:=?_);refine W3 (h:=nE (h:=zA (zF ?_))))))
 all_goals (refine qX (hr:=(zL rfl zM)) (h:=?_);(focus (unfold jQ;rw[hk,hq0];first|(rw[if_pos (by omega)];simp[qZ];done)|(rw[if_neg (by omega),if_pos hk1];simp[qZ];done)|(rw[if_neg (by omega),if_neg hkn];simp only[];first|(rw[if_pos (by simpa using c3)];simp[qZ];done)|(rw[if_neg (by simpa using c3)];simp[qZ];done)))))
theorem kQ (c:List Int) (a:Nat) (l:List Int) (hc:okS c) (ha:a<1000000000) (hl:0<l.length) (hl2:l.length<1000000):oc.call 42 [.iop (qZ c a),.lst true 1 (ints l)]=some (.int .i64 (at0 l (jQ c a l.length)),[qZ c (a+1)]):=by
 refine qA rfl cd42 rfl rfl rfl (by simp;rfl) (by simp;rfl) ?_;obtain⟨h1,h2⟩:=jL (c:=c) (a:=a) (n:=l.length) (by omega);have g1:=yC (w:=l) h1 h2;refine wa_ (zB (W3 (h:=nE (h:=zA (wa_ (zB (wM (h:=wM (h:=wM (h:=w_ (le (h:=w_ (cP (hc:=qF c a l.length hc ha (by omega)) (h:=?_))))))))))))));refine w_ (x_ (h:=w_ (l_ (h:=W3 (h:=nE (h:=zA (zF ?_)))))))
 all_goals (refine qX (hr:=(zL rfl zM)) (h:=?_);(focus (simp[qZ])))
theorem yO (c:List Int) (a:Nat) (n:Int) (hc:okS c) (ha:a<1000000000) (hn:n<1000000):oc.call 36 [.iop (qZ c a),.int .i64 n]=some (.bool (decide (jQ c a n=0)),[qZ c (a+1)]):=by
 refine qA rfl cd36 rfl rfl rfl (by simp;rfl) (by simp;rfl) ?_;refine wa_ (zB (W3 (h:=nE (h:=zA (wa_ (zB (wM (h:=wM (h:=w_ (cP (hc:=qF c a n hc ha (by omega)) (h:=w_ (bE (h:=W3 (h:=?_))))))))))))));refine nE (h:=zA (zF ?_))
 all_goals (refine qX (hr:=(zL rfl zM)) (h:=?_);(focus (simp[qZ])))
def zRl (c:List Int) (a:Nat):Int:=at0 [jQ c a 4,jQ c (a+1) 4,jQ c (a+2) 4,IntKind.i64.wrap (-jQ c (a+3) 5),jQ c (a+4) 90000] (jQ c (a+5) 5)
theorem qK6 (c:List Int) (a:Nat) (hc:okS c) (ha:a<900000000):oc.call 218 [.iop (qZ c a)]=some (.int .i64 (zRl c a),[qZ c (a+6)]):=by
 refine qA rfl cd218 rfl rfl rfl (by simp;rfl) (by simp;rfl) ?_;refine wa_ (zB (W3 (h:=nE (h:=zA (wa_ (zB (wM (h:=wM (h:=w_ (cP (hc:=qF c a 4 hc (by omega) (by omega)) (h:=wM (h:=w_ (cP (hc:=qF c (a+1) 4 hc (by omega) (by omega)) (h:=?_))))))))))))));refine wM (h:=w_ (cP (hc:=qF c (a+2) 4 hc (by omega) (by omega)) (h:=wM (h:=w_ (cP (hc:=qF c (a+3) 5 hc (by omega) (by omega)) (h:=w_ (u_ (h:=wM (h:=w_ (cP (hc:=qF c (a+4) 90000 hc (by omega) (by omega)) (h:=w_ (bs (h:=w_ (cPT (hc:=kQ c (a+5) [jQ c a 4,jQ c (a+1) 4,jQ c (a+2) 4,IntKind.i64.wrap (-jQ c (a+3) 5),jQ c (a+4) 90000] hc (by omega) (by simp) (by simp)) (h:=W3 (h:=nE (h:=zA ?_)))))))))))))))));refine zF ?_
 all_goals (refine qX (hr:=(zL rfl zM)) (h:=?_);(focus (simp[zRl])))
def zEm (c:List Int):Nat->Nat->List Int
 | 0,_=>[]
 | n+1,a=>zRl c a::zEm c n (a+6)
@[simp] theorem zZm (c:List Int):∀(n a:Nat),(zEm c n a).length=n
 | 0,_=>rfl
 | n+1,a=>by simp[zEm,zZm c n (a+6)]
theorem qM5 (c:List Int) (hc:okS c):∀x:Nat×Nat×(List Int),(x.1<1000000/\x.2.1+6 * x.1<900000000/\x.2.2.length+x.1<1000000)->∀s,zH 2 (some [0,1,5]) s=⟨[(0,.ptr 0 0 []),(1,.int .i64 x.1),(5,.ref 2 0 x.2.2.length)],[(0,⟨true,false,2,[qZ c x.2.1],0⟩),(2,⟨false,false,1,ints x.2.2,0⟩)],3⟩ ->
 oc.loop 170 2 s=some (.exit 0,⟨[(5,.ref 2 0 (x.2.2++zEm c x.1 x.2.1).length)],[(0,⟨true,false,2,[qZ c (x.2.1+6 * x.1)],0⟩),(2,⟨false,false,1,ints (x.2.2++zEm c x.1 x.2.1),0⟩)],3⟩):=by
 refine zV (σ:=Nat×Nat×(List Int)) (fun x=>x.1) _ (fun x=>⟨[(0,.ptr 0 0 []),(1,.int .i64 x.1),(5,.ref 2 0 x.2.2.length)],[(0,⟨true,false,2,[qZ c x.2.1],0⟩),(2,⟨false,false,1,ints x.2.2,0⟩)],3⟩) _ ?_;rintro⟨n,a,l⟩ hi ih s hs;simp only at hi;refine qD qJ9 rfl rfl hs ?_;obtain⟨hi1,hi2,hi3⟩:=hi;refine wa_ (wa_ (zB (wM (h:=w_ (b_ (h:=nE (h:=zA ?_)))))));refine c_ (h1:=?_) (h2:=?_)
 rotate_right 1
 focus
  intro c1;first|exact dn c1|(
   have d1:=c1;try simp at d1
   refine zW ?_)
 rotate_right 1
 focus
  intro c1;first|exact dn c1|(
   have d1:=c1;try simp at d1
   have hj:0<n:=(by simp at c1;omega);obtain⟨k,rfl⟩:∃k,n=k+1:=⟨n - 1,by omega⟩;refine zC ?_)
 all_goals first|refine zR ?_|(
  refine zA ?_;refine wa_ (zG (zB (wM (h:=wM (h:=w_ (cP (hc:=qK6 c a hc (by omega)) (h:=w_ (bs (h:=w_ (ap (h:=W3 (h:=nE (h:=zI (zA ?_))))))))))))));refine zB (wM (h:=w_ ?_));refine b_ (hv:=jZ (c:=k) (by simp) (by omega)) (h:=?_);refine W3 (h:=nE (h:=?_)))
 all_goals first
 | (apply zP (ex:=(Ext.exit 0)) 2 (some [5]);(focus (simp[zH];rfl));(focus (obtain rfl:n=0:=(by simp at c1;omega);simp[zEm])))
 | (refine(ih ((k,a+6,l++[zRl c a])) (⟨by simp only;omega,by simp only;omega,by simp;omega⟩) ?_ _ ?_).trans ?_;(focus (first|omega|(simp;done)|(simp;omega)));(focus (simp[zH,zEm];done));(focus (simp[zEm,show a+6+6 * k=a+6 * (k+1) by omega])))
theorem zMr (c:List Int) (n a:Nat) (hc:okS c) (hn:n<1000000) (ha:a+6 * n<900000000):oc.call 170 [.iop (qZ c a),.int .i64 n]=some (.lst true 1 (ints (zEm c n a)),[qZ c (a+6 * n)]):=by
 refine qA rfl qJ9 rfl rfl rfl (by simp;rfl) (by simp;rfl) ?_;have hT:(zEm c n a).take n=zEm c n a:=List.take_of_length_le (by simp);refine wa_ (zB (w_ (aN (h:=nE (h:=zA (wa_ (zB (w_ (bs (h:=W3 (h:=nE (h:=zA (wa_ ?_)))))))))))));refine zG ?_;refine qH (qM5 c hc (n,a,[]) ⟨by simp only;omega,by simp only;omega,by simp;omega⟩ _ (by simp[zH])) ?_;refine zS (zA (wa_ (zB (wM (h:=W3 (h:=nE (h:=zA (zF ?_))))))))
 all_goals (refine qX (hr:=(zL rfl zM)) (h:=?_);(focus (simp[hT])))
def sixL:List Int:=[1000000000,-1000000000,1000000001,-1000000001,4611686018427387904,-9223372036854775808]
def zJl (c:List Int) (a n:Nat):List Int×Nat :=
 if 0<n then(if jQ c (a+1+6 * n) 12=0 then((zEm c n (a+1)).set 0 (at0 sixL (jQ c (a+1+6 * n+1) 6)),a+1+6 * n+1+1) else(zEm c n (a+1),a+1+6 * n+1)) else(zEm c n (a+1),a+1+6 * n)
def zFe (c:List Int) (a:Nat):List Int×Nat :=
 if jQ c (zJl c a (jQ c a 5).toNat).2 24=0 then(zEm c 5 ((zJl c a (jQ c a 5).toNat).2+1),(zJl c a (jQ c a 5).toNat).2+1+6 * 5) else((zJl c a (jQ c a 5).toNat).1,(zJl c a (jQ c a 5).toNat).2+1)
theorem qA2 (c:List Int) (a:Nat):(zFe c a).1.length<=5/\(zFe c a).2<=a+100:=by
 obtain⟨h1,h2⟩:=jL (c:=c) (a:=a) (n:=5) (by omega);obtain⟨n,hn⟩:∃n:Nat,(jQ c a 5).toNat=n:=⟨_,rfl⟩;have h3:n<5:=by omega
 have hp:(zJl c a n).1.length=n/\(zJl c a n).2<=a+40:=by
  unfold zJl;split
  ·split
   ·exact⟨by simp,by simp only;omega⟩
   ·exact⟨by simp,by simp only;omega⟩
  ·exact⟨by simp,by simp only;omega⟩
 unfold zFe;rw[hn];split
 ·exact⟨by simp,by simp only;omega⟩
 ·exact⟨by simp only;omega,by simp only;omega⟩
theorem qCj (c:List Int) (a:Nat) (hc:okS c) (ha:a<800000000):oc.call 166 [.iop (qZ c a)]=some (.lst true 1 (ints (zFe c a).1),[qZ c (zFe c a).2]):=by
 refine qA rfl cd166 rfl rfl rfl (by simp;rfl) (by simp;rfl) ?_;obtain⟨h1,h2⟩:=jL (c:=c) (a:=a) (n:=5) (by omega);obtain⟨n,hn⟩:∃n:Nat,(jQ c a 5).toNat=n:=⟨_,rfl⟩;have hn5:jQ c a 5=(n:Int):=by omega
 have hnl:n<5:=by omega
 have hT:(zEm c n (a+1)).take n=zEm c n (a+1):=List.take_of_length_le (by simp);have hT2:∀x,((zEm c n (a+1)).set 0 x).take n=(zEm c n (a+1)).set 0 x:=fun x=>List.take_of_length_le (by simp)
 have hT3:∀b,(zEm c 5 b).take 5=zEm c 5 b:=fun b=>List.take_of_length_le (by simp)
 have hnx:oc.call 37 [.iop (qZ c a),.int .i64 5]=some (.int .i64 n,[qZ c (a+1)]):=by rw[<-hn5];exact qF c a 5 hc (by omega) (by omega)
 have h6:sixL.length=6:=rfl;refine wa_ (zB (w_ (aN (h:=nE (h:=zA (wa_ (zB (wM (h:=wM (h:=w_ (cP (hc:=hnx) (h:=w_ (cP (hc:=zMr c n (a+1) hc (by omega) (by omega)) (h:=W3 (h:=?_)))))))))))))));refine nE (h:=zA (wa_ (wa_ (zB (wM (h:=w_ (le (h:=w_ (b_ (h:=wM (h:=?_)))))))))));refine gw_ (h1:=?_) (h2:=?_)
 rotate_right 1
 focus
  intro c1;first|exact dn c1|(
   have d1:=c1;try simp at d1
   have hnn:¬0<n:=(by omega);clear d1;refine go_ (h:=go_ (h:=?_)))
 rotate_right 1
 focus
  intro c1;first|exact dn c1|(
   have d1:=c1;try simp at d1
   have g0:(ints (zEm c n (a+1)))[0]? = some (.int .i64 (zRl c (a+1))):=(by obtain⟨m,rfl⟩:∃m,n=m+1:=⟨n - 1,by omega⟩;rfl);have g0b:∀h:0<(ints (zEm c n (a+1))).length,(ints (zEm c n (a+1)))[0] = .int .i64 (zRl c (a+1)):=(fun h=>by rw[List.getElem?_eq_getElem h] at g0;exact Option.some.inj g0);refine g_ (h:=wM (h:=g_ (h:=w_ (cP (hc:=yO c (a+1+6 * n) 12 hc (by omega) (by omega)) (h:=?_))))))
 all_goals
  refine w_ (pk (h:=nE (h:=?_)))
 all_goals first
 | (
  refine zA ?_;refine c_ (h1:=?_) (h2:=?_)
  rotate_right 1
  focus
   intro c2;first|exact dn c2|(
    have d2:=c2;try simp at d2
    refine zC ?_)
  rotate_right 1
  focus
   intro c2;first|exact dn c2|(
    have d2:=c2;try simp at d2
    refine zB (wM (h:=wM (h:=w_ (bs (h:=w_ (cPT (hc:=kQ c (a+1+6 * n+1) sixL hc (by omega) (by simp[sixL]) (by simp[sixL])) (h:=w_ (x_ (h:=w0 (s_ (h:=nE (h:=?_))))))))))))))
 all_goals first
 | (
  refine zA ?_;refine wa_ (wa_ (zB (wM (h:=?_))))
  first|refine w_ (cP (hc:=yO c (a+1+6 * n) 24 hc (by omega) (by omega)) (h:=?_))|refine w_ (cP (hc:=yO c (a+1+6 * n+1) 24 hc (by omega) (by omega)) (h:=?_))|refine w_ (cP (hc:=yO c (a+1+6 * n+1+1) 24 hc (by omega) (by omega)) (h:=?_))
  refine nE (h:=zA ?_);refine c_ (h1:=?_) (h2:=?_)
  rotate_right 1
  focus
   intro c3;first|exact dn c3|(
    have d3:=c3;try simp at d3
    refine zC ?_)
  rotate_right 1
  focus
   intro c3;first|exact dn c3|(
    have d3:=c3;try simp at d3
    refine zB (wM (h:=?_))
    first|refine w_ (cP (hc:=zMr c 5 (a+1+6 * n+1) hc (by omega) (by omega)) (h:=?_))|refine w_ (cP (hc:=zMr c 5 (a+1+6 * n+1+1) hc (by omega) (by omega)) (h:=?_))|refine w_ (cP (hc:=zMr c 5 (a+1+6 * n+1+1+1) hc (by omega) (by omega)) (h:=?_))
    refine W3 (h:=nE (h:=?_)))
  all_goals first
  | (
   refine zA ?_;refine wa_ (zB (wM (h:=W3 (h:=nE (h:=zA (zF ?_))))))))
 all_goals (refine qX (hr:=(zL rfl zM)) (h:=?_);(focus (unfold zFe zJl;rw[hn];simp[*])))
end Go.Proofs.YtbcgenkegnmkhaaGreat.Ev
namespace Go.Proofs.YtbcgenkegnmkhaaGreat.Ev
open Go
set_option maxRecDepth 100000
set_option linter.unusedSimpArgs false
set_option linter.unusedVariables false
set_option maxHeartbeats 2000000
theorem qEk {Q:Ext×St->Prop} {f k:Nat} {fn:Func} {body full:Code} {s s0:St} (hf:cf.code f=some fn) (hb:fn.body=some full) (hk:qC k full=some body) (hs:zH (fn.params.size+fn.nfree) (qC3 f k) s=s0)
  (h:wpC oc cf f body s0 (fun e s'=>match e with
   | .normal=>∃r,oc.loop f k s'=some r/\Q r
   | e=>Q (e,zH (fn.params.size+fn.nfree) (outT f k) s'))):∃r,oc.loop f k s=some r/\Q r:=by
 obtain⟨⟨e,s'⟩,h1,h2⟩:=h;cases e with
 | normal=>obtain⟨r,h3,h4⟩:=h2;exact⟨r,qD hf hb hk hs ⟨(.normal,s'),h1,h3⟩,h4⟩
 | ret=>exact⟨_,qD hf hb hk hs ⟨(.ret,s'),h1,rfl⟩,h2⟩
 | exit i=>exact⟨_,qD hf hb hk hs ⟨(.exit i,s'),h1,rfl⟩,h2⟩
theorem zW6 {σ:Type} {f k np:Nat} {keep:Option (List Nat)} (μ:σ->Nat) (P:σ->Prop) (H:σ->St) (R:σ->Ext×St->Prop)
  (step:∀x,P x->(∀y,P y->μ y<μ x->∀s',zH np keep s'=H y->∃r,oc.loop f k s'=some r/\R y r)->∀s,zH np keep s=H x->∃r,oc.loop f k s=some r/\R x r) :
  ∀x,P x->∀s,zH np keep s=H x->∃r,oc.loop f k s=some r/\R x r:=by
 have key:∀m x,μ x<m->P x->∀s,zH np keep s=H x->∃r,oc.loop f k s=some r/\R x r:=by
  intro m
  induction m with
  | zero=>intro x h;omega
  | succ m ih=>intro x h hp;exact step x hp (fun y hy hm=>ih y (by omega) hy)
 intro x;exact key (μ x+1) x (by omega)
theorem zZf {fn:FuncId} {b:Code} {s:St} {R:Ext×St->Prop} {Q:Ext->St->Prop} (h:∃r,oc.loop fn (zB4 b) s=some r/\R r) (hq:∀e s',R (e,s')->Q e s'):wpC oc cf fn (.loop b) s Q:=by
 obtain⟨⟨e,s'⟩,h1,h2⟩:=h;exact qH h1 (hq e s' h2)
theorem qAd {Q:V×List V->Prop} {f:FuncId} {fn:Func} {body:Code} {args:List V} {e:List (Nat×V)} {o:List (Nat×Ob)} {n:Nat} (hn:qH6 f=false) (hf:cf.code f=some fn) (hb:fn.body=some body) (hl:args.length=n) (hl2:n=fn.params.size+fn.nfree) (he:(zQ 0 args).1=e) (ho:(zQ 0 args).2=o)
  (h:wpC oc cf f body ⟨e,o,n⟩ (fun e s=>(e = .normal\/e = .ret)/\∃vs,zEz cf s fn.results.toList=some vs/\∃r,V.fzL vs ⟨[],s.obs,s.nxt⟩=r/\∃q,r=some q/\∃os,xT 0 args q.2=some os/\Q (zFi q.1,os))) (hh:hsT f=false:=by rfl):∃r,oc.call f args=some r/\Q r:=by
 obtain⟨r,h1,h2,vs,h3,q,h4,u,h5,os,h6,h7⟩:=h;exact⟨_,qA hn hf hb hl hl2 he ho ⟨r,h1,h2,vs,h3,q,h4,u,h5,os,h6,rfl⟩ hh,h7⟩
theorem zXy {Q:V×List V->Prop} {e:Ext} {s:St} {fn:Func} {args:List V} {vs:List V} {r:Option (List V×St)} {q:List V×St} {os:List V} (he:e = .normal\/e = .ret:=by simp)
  (hr:zEz cf s fn.results.toList=some vs)
  (hz:V.fzL vs ⟨[],s.obs,s.nxt⟩=r:=by(simp;rfl)) (hq:r=some q:=by rfl) (ho:xT 0 args q.2=some os:=by(simp;rfl)) (h:Q (zFi q.1,os)) :
  (e = .normal\/e = .ret)/\∃vs,zEz cf s fn.results.toList=some vs/\∃r,V.fzL vs ⟨[],s.obs,s.nxt⟩=r/\∃q,r=some q/\∃os,xT 0 args q.2=some os/\Q (zFi q.1,os) :=
 ⟨he,vs,hr,r,hz,q,hq,os,ho,h⟩
def qB1 (call:Call) (cfg:Cfg) (k id base:Nat) (e:List (Nat×V)) (o:List (Nat×Ob)) (n:Nat) (t:TypeId) (op:Op) (K:V->List (Nat×Ob)->Prop):Prop :=
 ∃v o',opA call cfg k id base ⟨e,o,n⟩ t op=some (v,⟨e,o',n⟩)/\K v o'
section
variable {orc : Orc} {fn : FuncId} {s : St} {Q : Ext->St->Prop}
theorem zOv {id k:Nat} {ops:Array Oper} (hal:cf.alR fn id=k:=by first|(rw[zZk];done)|(rw[zZk];rfl)) (hk:k≠0:=by decide) (h:wpA orc.call cf k ops.toList s.nxt ops.toList s (fun t=>Q .normal t)):wpC orc cf fn (.region id ops false) s Q:=zXg hal hk h
end
section
variable {call : Call} {all rest : List Oper} {base k : Nat} {Q : St->Prop} {e : List (Nat × V)} {o : List (Nat × Ob)} {n : Nat} {d : Nat} {op : Op} {t : TypeId} {p : String} {af : Array Edge}
theorem wA (h:qB1 call cf k n base e o n t op (fun v o'=>wpA call cf k all base rest ⟨(d,v)::e,o',n+32⟩ Q)):wpA call cf k all base (⟨some d,op,t,p,af,none⟩::rest) ⟨e,o,n⟩ Q:=by
 obtain⟨v,o',h1,t,h2,h3⟩:=h;refine⟨t,?_,h3⟩;simp only[zMb,xA,h1,Nat.max_self,St.put,St.on,Bool.false_eq_true,if_false,xC];exact h2
theorem oA {id:Nat} {K:V->List (Nat×Ob)->Prop} (hb:opB cf k id base ⟨e,o,n⟩ op=none:=by first|rfl|(simp[opB];done)) (ha:zDs ⟨e,o,n⟩ op=none:=by first|rfl|(simp[zDs];done)) (h:opK call cf id base e o n t op K):qB1 call cf k id base e o n t op K:=by
 obtain⟨v,o',h1,h2⟩:=h;exact⟨v,o',by simp only[opA,hb,ha,h1],h2⟩
theorem gA {j:Nat} {want b:Bool} {dd:Option Tmp} (hb:((all[j]?).bind (·.dst)).bind (zO e)=some (.bool b):=by exact rfl) (hw:b=want:=by first|exact rfl|assumption) (h:wpA call cf k all base (⟨dd,op,t,p,af,none⟩::rest) ⟨e,o,n⟩ Q):wpA call cf k all base (⟨dd,op,t,p,af,some (j,want)⟩::rest) ⟨e,o,n⟩ Q:=by
 obtain⟨t,h2,h3⟩:=h;refine⟨t,?_,h3⟩;subst hw;rw[<-h2];simp only[zMb,xA,hb,BEq.rfl]
theorem goA {j:Nat} {want b:Bool} (hb:((all[j]?).bind (·.dst)).bind (zO e)=some (.bool b):=by exact rfl) (hw:b=!want:=by first|exact rfl|assumption) (h:wpA call cf k all base rest ⟨(d,.iop .und)::e,o,n+32⟩ Q):wpA call cf k all base (⟨some d,op,t,p,af,some (j,want)⟩::rest) ⟨e,o,n⟩ Q:=by
 obtain⟨t,h2,h3⟩:=h;refine⟨t,?_,h3⟩;subst hw;rw[<-h2]
 have:((!want)==want)=false:=by cases want<;>rfl
 simp only[zMb,xA,hb,this,St.put,St.on,Bool.false_eq_true,if_false,xC]
theorem gwA {j:Nat} {want b:Bool} {dd:Option Tmp} (hb:((all[j]?).bind (·.dst)).bind (zO e)=some (.bool b):=by exact rfl)
  (h1:b=want->wpA call cf k all base (⟨dd,op,t,p,af,some (j,want)⟩::rest) ⟨e,o,n⟩ Q) (h2:b=!want->wpA call cf k all base (⟨dd,op,t,p,af,some (j,want)⟩::rest) ⟨e,o,n⟩ Q) :
  wpA call cf k all base (⟨dd,op,t,p,af,some (j,want)⟩::rest) ⟨e,o,n⟩ Q:=by
 by_cases h:b=want
 ·exact h1 h
 ·exact h2 (by cases b<;>cases want<;>simp_all)
theorem nA {m n':Nat} (hn:m=n':=by((try simp);rfl)) (h:Q ⟨e,o,n'⟩):wpA call cf k all base [] ⟨e,o,m⟩ Q:=by subst hn;exact⟨_,rfl,h⟩
end
section
variable {all rest : List Oper} {base k : Nat} {Q : St->Prop} {e : List (Nat × V)} {o : List (Nat × Ob)} {n : Nat} {d : Nat} {t : TypeId} {p : String} {af : Array Edge}
theorem iA {args:Array Operand} {ts:Array TypeId} {fo:Operand} {f:FuncId} {cs vs:List V} {fn:Func} {body:Code} (hcd:cf.code f=some fn) (hbd:fn.body=some body) (hx:kW e args.toList=some vs:=by exact rfl) (hf:opV e fo=some (.clo f cs):=by exact rfl) (hlen:(vs++cs).length=fn.params.size+fn.nfree:=by rfl) (hB:cf.inB f=true:=by(rw[zFc];rfl)) (hP:cf.plB f=false:=by(rw[zRr];rfl)) (hk:V.capsOk cs=true:=by exact rfl) (ha:zDs ⟨e,o,n⟩ (.call ⟨.value fo,args,ts⟩)=none:=by(simp[zDs];done))
  (h:wpC ⟨oc.call,yA oc.call cf 6⟩ cf f body ⟨zAl 0 (vs++cs),o,n⟩ (fun t s=>(t = .normal\/t = .ret)/\∃ws,zEz cf s fn.results.toList=some ws/\ws.all (fun v=>!v.isTup)=true/\wpA oc.call cf k all base rest ⟨(d,zFi ws)::e,s.obs,max n s.nxt+32⟩ Q)) :
  wpA oc.call cf k all base (⟨some d,.call ⟨.value fo,args,ts⟩,t,p,af,none⟩::rest) ⟨e,o,n⟩ Q:=by
 obtain⟨r,h1,h2,ws,h3,h4,t',h5,h6⟩:=h
 have hi:oc.call.i f (vs++cs) ⟨e,o,n⟩ n=some (zFi ws,⟨e,r.2.obs,r.2.nxt⟩):=by
  have hI:zPj oc.call cf f (vs++cs) ⟨e,o,n⟩ n=some (zFi ws,⟨e,r.2.obs,r.2.nxt⟩):=by
   unfold zPj;simp only[hcd,hbd,if_pos hlen,h1,if_pos h2,h3,if_pos h4]
  exact qB7 hP hI
 refine⟨t',?_,h6⟩;have hb:opB cf k n base ⟨e,o,n⟩ (.call ⟨.value fo,args,ts⟩)=none:=by simp only[opB,hx]
 simp only[zMb,xA,opA,hb,ha,opE,hx,hf,if_pos hk,if_pos hB,hi,St.put,St.on,Bool.false_eq_true,if_false,xC];exact h5
end
def uQ (call:Call) (n:Nat) (fn:FuncId) (b:Code) (Q:Ext->St->Prop):Ext->St->Prop:=fun e s=>match e with
 | .normal=>∃r,yA call cf n fn (zB4 b) s=some r/\Q r.1 r.2
 | e=>Q e s
theorem uL {call:Call} {n:Nat} {fn:FuncId} {f:Func} {full b:Code} {s:St} {Q:Ext->St->Prop} (hf:cf.code fn=some f) (hb:f.body=some full) (hk:qC (zB4 b) full=some b) (h:wpC ⟨call,yA call cf n⟩ cf fn b s (uQ call n fn b Q)):wpC ⟨call,yA call cf (n+1)⟩ cf fn (.loop b) s Q:=by
 refine zZu hf hb hk ?_;obtain⟨r,h1,h2⟩:=h;refine⟨r,h1,?_⟩;obtain⟨e,s'⟩:=r;cases e<;>exact h2
theorem uN {call:Call} {n:Nat} {fn:FuncId} {b:Code} {s:St} {Q:Ext->St->Prop} (h:wpC ⟨call,yA call cf n⟩ cf fn (.loop b) s Q):uQ call n fn b Q .normal s:=h
theorem uX {call:Call} {n i:Nat} {fn:FuncId} {b:Code} {s:St} {Q:Ext->St->Prop} (h:Q (.exit i) s):uQ call n fn b Q (.exit i) s:=h
end Go.Proofs.YtbcgenkegnmkhaaGreat.Ev
namespace Go.Proofs.YtbcgenkegnmkhaaGreat.Ev
open Go
set_option maxRecDepth 100000
set_option linter.unusedSimpArgs false
set_option linter.unusedVariables false
set_option maxHeartbeats 2000000
section
variable {call : Call} {id base n : Nat} {e : List (Nat × V)} {o : List (Nat × Ob)} {t : TypeId} {K : V->List (Nat × Ob)->Prop}
theorem qKk {args:Array Operand} {ts:Array TypeId} {t1 t2 e1 e2:TypeId} {z:V} {q p m vq vp:Nat} {xs:List V} {o1:List (Nat×Ob)} (hx:kW e args.toList=some [.ref q 0 0,.ref p 0 m]:=by exact rfl) (h1:ts[0]? = some t1:=by exact rfl) (h2:ts[1]? = some t2:=by exact rfl) (he1:cf.elem t1=some e1:=by exact tys_ok.elem _ _ rfl) (hz:cf.zero e1=some z:=by exact tys_ok.zero _ _ rfl) (he2:cf.elem t2=some e2:=by exact tys_ok.elem _ _ rfl)
  (hq:zO o q=some ⟨false,false,z.cells,[],vq⟩:=by exact rfl) (hp:zO o p=some ⟨false,false,z.cells,xs,vp⟩:=by exact rfl) (hm:m=xs.length:=by first|rfl|simp) (h0:0<m:=by first|omega|(simp<;>omega)) (hlt:m<zCe:=by(simp[zCe]<;>omega)) (hd:kT o q=o1:=by(simp;rfl))
  (h:K (.ref id 0 m) ((id,⟨true,true,z.cells,yE p vp 0 xs,0⟩)::o1)):qB1 call cf 1 id base e o n t (.call ⟨.builtin .append,args,ts⟩) K:=by
 subst hd;refine⟨_,_,?_,h⟩;have hlen:=xO (o:=p) (ver:=vp) (xs:=xs) (i:=0);subst hm
 have hA:zD2 cf ⟨e,o,n⟩ t1 id base (.ref q 0 0) (.ref p 0 xs.length)=some (.ref id 0 xs.length,⟨e,(id,⟨true,true,z.cells,yE p vp 0 xs,0⟩)::kT o q,n⟩):=by
  simp only[zD2,he1,Option.bind_some,hz,St.baseA,hq,Bool.false_eq_true,false_and,if_false,St.elemsA,hp,true_and,if_true,St.base,St.give,Nat.add_zero,List.length_nil,Nat.le_refl,and_self,List.drop_nil,List.take_nil,hlen,h0,hlt,St.new,xC]
 simp only[opA,opB,hx,h1,h2,he2,Option.isSome_some,if_true,hA]
theorem zPl {args:Array Operand} {ts:Array TypeId} {t1 t2 e1 e2:TypeId} {z:V} {q p m m2 sp vq vp:Nat} {xs ys:List V} {o1:List (Nat×Ob)} (hx:kW e args.toList=some [.ref q 0 m,.ref p 0 m2]:=by exact rfl) (h1:ts[0]? = some t1:=by exact rfl) (h2:ts[1]? = some t2:=by exact rfl) (he1:cf.elem t1=some e1:=by exact tys_ok.elem _ _ rfl) (hz:cf.zero e1=some z:=by exact tys_ok.zero _ _ rfl) (he2:cf.elem t2=some e2:=by exact tys_ok.elem _ _ rfl)
  (hq:zO o q=some ⟨true,true,z.cells,xs,vq⟩:=by exact rfl) (hp:zO o p=some ⟨false,false,sp,ys,vp⟩:=by exact rfl) (hne:q≠p:=by decide) (hbase:base<=p:=by(simp<;>omega)) (hm:m=xs.length:=by first|rfl|simp) (hm2:m2=ys.length:=by first|rfl|simp) (h0:0<ys.length:=by simp) (hc:V.cellsAll z.cells ys=true:=by(simp[*];try rfl)) {m3:Nat} (hm3:(xs++ys).length=m3) (hlt:m3<zCe:=by(simp[zCe]<;>omega)) (hd:kT (kT o p) q=o1:=by(simp;rfl))
  (h:K (.ref id 0 m3) ((id,⟨true,true,z.cells,xs++ys,0⟩)::o1)):qB1 call cf 1 id base e o n t (.call ⟨.builtin .append,args,ts⟩) K:=by
 subst hd hm hm2 hm3;refine⟨_,_,?_,h⟩;have hq2:zO (kT o p) q=some ⟨true,true,z.cells,xs,vq⟩:=by rw[qT hne];exact hq
 have hA:zD2 cf ⟨e,o,n⟩ t1 id base (.ref q 0 xs.length) (.ref p 0 ys.length)=some (.ref id 0 (xs++ys).length,⟨e,(id,⟨true,true,z.cells,xs++ys,0⟩)::kT (kT o p) q,n⟩):=by
  simp only[zD2,he1,Option.bind_some,hz,St.baseA,hq,and_self,if_true,St.elems,if_pos hbase,St.give,hp,Nat.zero_add,Nat.le_refl,List.drop_zero,List.take_length,zJ,hq2,hc,h0,hlt,St.new,xC]
 simp only[opA,opB,hx,h1,h2,he2,Option.isSome_some,if_true,hA]
theorem kA_ix {t' el:TypeId} {x ix:Operand} {k:IntKind} {a:Int} {q m j sz v:Nat} {xs:List V} {z y:V} (hx:opV e x=some (.ref q 0 m):=by exact rfl) (hi:opV e ix=some (.int k a):=by exact rfl) (he:cf.elem t'=some el:=by exact tys_ok.elem _ _ rfl) (hz:cf.zero el=some z:=by exact tys_ok.zero _ _ rfl) (hq:zO o q=some ⟨true,true,sz,xs,v⟩:=by exact rfl)
  (ha:a=(j:Int)) (hj:j<m) (hy:xs[j]? = some y) (hc:y.cells=z.cells) (h:K (.ptr q j []) o):qB1 call cf 1 id base e o n t (.indexAddr t' x ix) K:=by
 subst ha;refine⟨_,_,?_,h⟩;simp only[opA,opB,hx,hi,zQf,he,Option.bind_some,hz,Int.natCast_nonneg,if_true,Int.toNat_natCast,if_pos hj,hq,and_self,Nat.zero_add,hy,if_pos hc,zJ]
theorem qF1 {args:Array Operand} {ts:Array TypeId} {fo:Operand} {f:FuncId} {q m sz v:Nat} {xs ys:List V} {k:IntKind} {r:Int} (hx:kW e args.toList=some [.ref q 0 m]:=by exact rfl) (hf:opV e fo=some (.clo f []):=by exact rfl) (hB:cf.inB f=false:=by(rw[zFc];rfl)) (hmd:cf.md f=[]:=by(rw[zB7];rfl)) (hq:zO o q=some ⟨true,true,sz,xs,v⟩:=by exact rfl)
  (hm:m=xs.length:=by first|rfl|simp) (h0:0<m:=by first|omega|(simp<;>omega)) (hs:V.snapL ⟨[],o,n⟩ xs=some ys) (hc:call f [.lst false 0 ys]=some (.int k r,[])) (h:K (.int k r) o):qB1 call cf 1 id base e o n t (.call ⟨.value fo,args,ts⟩) K:=by
 refine⟨_,_,?_,h⟩;have hs':V.snapL ⟨e,o,n⟩ xs=some ys:=(zJk e ⟨[],o,n⟩ xs).trans hs;have hb:opB cf 1 id base ⟨e,o,n⟩ (.call ⟨.value fo,args,ts⟩)=none:=by simp only[opB,hx]
 have ha:zDs ⟨e,o,n⟩ (.call ⟨.value fo,args,ts⟩)=some (f,[.ref q 0 m]):=by simp only[zDs,hx,hf,hq,and_self,if_true]
 subst hm;simp only[opA,hb,ha,zN7,hmd,hB,and_self,if_true,hq,h0,hs',hc,zJ]
theorem kA_mv {x:Operand} {q lo m:Nat} {o1:List (Nat×Ob)} (hx:opV e x=some (.ref q lo m):=by exact rfl) (hu:St.unalias ⟨e,o,n⟩ q=some ⟨e,o1,n⟩) (h:K (.ref q lo m) o1):qB1 call cf 2 id base e o n t (.move x) K:=by
 refine⟨_,_,?_,h⟩;simp only[opA,opB,if_true,hx,hu,zJ]
end
theorem zFx {a b c:Int} (h:a - b=c) (h1:-4000000000000000000<=c) (h2:c<4000000000000000000):zEy .sub .i64 a b=some (.int .i64 c):=by
 simp only[zEy];rw[h,qL (by omega) (by omega)]
theorem zQc {s:St} {p v:Nat} {sz:Nat} {bx fx:Bool} {l:List Nd} (h:zO s.obs p=some ⟨bx,fx,sz,nds true 1 l,v⟩):∀(m:List Nd) (i:Nat),(∀j x,m[j]? = some x->l[i+j]? = some x)->V.snapL s (yE p v i (nds true 1 m))=some (nds false 0 m)
 | [],i,_=>rfl
 | x::m,i,hm=>by
  have hx:l[i]? = some x:=by have:=hm 0 x rfl;simpa using this
  have hg:Ob.get ⟨bx,fx,sz,nds true 1 l,v⟩ i [6]=some (.lst true 1 (ints x.cells)):=by
   have:=zBb (t:=true) (s:=1) hx
   simp only[Ob.get,this,Nd.v,kS,List.getElem?_cons_succ,List.getElem?_cons_zero]
  have hat:s.at p i [6] v x.cells.length=some (1,ints x.cells,⟨bx,fx,sz,nds true 1 l,v⟩):=by
   have hl:(ints x.cells).length=x.cells.length:=by simp
   simp only[St.at,h,if_true,hg,hl]
  have ih:=zQc h m (i+1) (fun j y hj=>by have:=hm (j+1) y hj;rw[<-this];congr 1;omega);simp only[zRe,yE,V.snapL,ih,zJ,Nd.v,V.lod,V.lodL,List.nil_append,Nat.zero_add,Nat.reduceAdd,V.snap,zPh,hat,zBz]
theorem qAg {p sz:Nat}:∀(m:List Nd) (i:Nat) (s:St) (xs:List V),zO s.obs p=some ⟨false,false,sz,xs,0⟩->(∀j x,m[j]? = some x->xs[i+j]? = some (x.v true 1)) ->
  ∃L,(∀x∈L,x.1=p)/\V.fzIL (yE p 0 i (nds true 1 m)) s=some (nds true 1 m,⟨s.env,L++s.obs,s.nxt⟩)
 | [],i,s,xs,_,_=>⟨[],fun _ h=>(by cases h),rfl⟩
 | x::m,i,s,xs,h,hm=>by
  have hx:xs[i]? = some (x.v true 1):=by have:=hm 0 x rfl;simpa using this
  have hlt:i<xs.length:=(List.getElem?_eq_some_iff.1 hx).1
  have hg:Ob.get ⟨false,false,sz,xs,0⟩ i [6]=some (.lst true 1 (ints x.cells)):=by
   simp only[Ob.get,hx,Nd.v,kS,List.getElem?_cons_succ,List.getElem?_cons_zero]
  have hl:(ints x.cells).length=x.cells.length:=by simp
  have hat:s.at p i [6] 0 x.cells.length=some (1,ints x.cells,⟨false,false,sz,xs,0⟩):=by
   simp only[St.at,h,if_true,hg,hl]
  obtain⟨xu,hset⟩:∃xu,Ob.set ⟨false,false,sz,xs,0⟩ i [6] .und=some ⟨false,false,sz,xs.set i xu,0⟩:=by
   simp only[Ob.set,hx,Nd.v,zCv,List.getElem?_cons_succ,List.getElem?_cons_zero,zJ];exact⟨_,rfl⟩
  have htk:s.takeQ p i [6] 0 x.cells.length=some (1,ints x.cells,⟨s.env,(p,⟨false,false,sz,xs.set i xu,0⟩)::s.obs,s.nxt⟩):=by
   simp only[St.takeQ,hat,hset,zJ,xC]
  obtain⟨L,hL,hr⟩:=qAg (p:=p) (sz:=sz) m (i+1) ⟨s.env,(p,⟨false,false,sz,xs.set i xu,0⟩)::s.obs,s.nxt⟩ (xs.set i xu) (by simp[zO]) (fun j y hj=>by
   rw[List.getElem?_set_ne (by omega)]
   have:=hm (j+1) y hj
   rw[<-this];congr 1;omega)
  refine⟨L++[(p,⟨false,false,sz,xs.set i xu,0⟩)],fun y hy=>?_,?_⟩
  ·rcases List.mem_append.1 hy with hy|hy
   ·exact hL y hy
   ·simp at hy;rw[hy]
  ·have h1:V.fzI ((x.v true 1).lod p i 0 []) s=some (x.v true 1,⟨s.env,(p,⟨false,false,sz,xs.set i xu,0⟩)::s.obs,s.nxt⟩):=by
    simp only[Nd.v,V.lod,V.lodL,List.nil_append,Nat.zero_add,Nat.reduceAdd,V.fzI,V.fzIL,V.fz,zJ,zPh,htk]
   simp only[zRe,yE,V.fzIL,h1,hr,zJ,List.append_assoc,List.singleton_append]
theorem zPa:∀{a b:List V} {s s1 s2:St} {x y:List V},V.fzIL a s=some (x,s1)->V.fzIL b s1=some (y,s2)->V.fzIL (a++b) s=some (x++y,s2)
 | [],b,s,s1,s2,x,y,h1,h2=>by simp only[V.fzIL,Option.some.injEq,Prod.mk.injEq] at h1;obtain⟨rfl,rfl⟩:=h1;exact h2
 | v::a,b,s,s1,s2,x,y,h1,h2=>by
  simp only[V.fzIL] at h1;cases hv:v.fzI s with
  | none=>rw[hv] at h1;cases h1
  | some r =>
   rw[hv] at h1;simp only at h1;cases ha:V.fzIL a r.2 with
   | none=>rw[ha] at h1;cases h1
   | some q =>
    rw[ha] at h1;simp only[zJ,Option.some.injEq,Prod.mk.injEq] at h1;obtain⟨rfl,rfl⟩:=h1
    have:=zPa (b:=b) (s:=r.2) (s1:=q.2) (x:=q.1) ha h2
    simp only[List.cons_append,V.fzIL,hv,this,zJ]
theorem zNi {e:List (Nat×V)} {o:List (Nat×Ob)} {n q p sz v:Nat} {l:List Nd} {x:Nd} (hq:zO o q=some ⟨true,true,sz,yE p 0 0 (nds true 1 l)++[x.v true 1],v⟩) (hp:zO (kT o q) p=some ⟨false,false,7,nds true 1 l,0⟩) :
  ∃L,(∀x∈L,x.1=p)/\St.unalias ⟨e,o,n⟩ q=some ⟨e,(q,⟨false,false,sz,nds true 1 (l++[x]),v+1⟩)::(L++kT o q),n⟩:=by
 obtain⟨L,hL,hr⟩:=qAg (p:=p) (sz:=7) l 0 ⟨e,kT o q,n⟩ (nds true 1 l) hp (fun j y hj=>by rw[Nat.zero_add];exact zBb hj);refine⟨L,hL,?_⟩
 have h1:V.fzIL [x.v true 1] ⟨e,L++kT o q,n⟩=some ([x.v true 1],⟨e,L++kT o q,n⟩):=by
  simp only[V.fzIL,Nd.v,V.fzI,V.fz,zJ]
 have h2:=zPa hr h1;simp only[St.unalias,hq,and_self,if_true,h2,xC,qA3]
theorem zXq {s:St} {p v sz:Nat} {bx fx:Bool} {l:List Nd} {x:Nd} (h:zO s.obs p=some ⟨bx,fx,sz,nds true 1 l,v⟩):V.snapL s (yE p v 0 (nds true 1 l)++[x.v true 1])=some (nds false 0 (l++[x])):=by
 have h1:=zQc h l 0 (fun j y hj=>by rw[Nat.zero_add];exact hj)
 have app:∀{a b x y:List V},V.snapL s a=some x->V.snapL s b=some y->V.snapL s (a++b)=some (x++y):=by
  intro a
  induction a with
  | nil=>intro b x y h1 h2;simp only[V.snapL,Option.some.injEq] at h1;subst h1;exact h2
  | cons v a ih =>
   intro b x y h1 h2;simp only[V.snapL] at h1;cases hv:v.snap s with
   | none=>rw[hv] at h1;cases h1
   | some r =>
    rw[hv] at h1;simp only at h1;cases ha:V.snapL s a with
    | none=>rw[ha] at h1;cases h1
    | some q =>
     rw[ha] at h1;simp only[zJ,Option.some.injEq] at h1;subst h1;simp only[List.cons_append,V.snapL,hv,ih ha h2,zJ]
 rw[app h1 (show V.snapL s [x.v true 1]=some [x.v false 0] by simp[V.snapL,mp])];simp
theorem kA_un {call:Call} {id base n:Nat} {e:List (Nat×V)} {o:List (Nat×Ob)} {t:TypeId} {K:V->List (Nat×Ob)->Prop} {x:Operand} {q m p sz v:Nat} {l:List Nd} {y:Nd} {o1:List (Nat×Ob)} (hx:opV e x=some (.ref q 0 m):=by exact rfl) (hq:zO o q=some ⟨true,true,sz,yE p 0 0 (nds true 1 l)++[y.v true 1],v⟩:=by exact rfl) (hd:kT o q=o1:=by(simp;rfl)) (hp:zO o1 p=some ⟨false,false,7,nds true 1 l,0⟩:=by exact rfl)
  (h:∀L:List (Nat×Ob),(∀x∈L,x.1=p)->K (.ref q 0 m) ((q,⟨false,false,sz,nds true 1 (l++[y]),v+1⟩)::(L++o1))):qB1 call cf 2 id base e o n t (.move x) K:=by
 subst hd;obtain⟨L,hL,hu⟩:=zNi (e:=e) (n:=n) hq hp;exact kA_mv hx hu (h L hL)
theorem zWp {α:Type} {L r:List (Nat×α)} {p k:Nat} (hL:∀x∈L,x.1=p) (hk:p≠k):zO (L++r) k=zO r k:=by
 induction L with
 | nil=>rfl
 | cons x L ih =>
  obtain⟨a,b⟩:=x
  have:a=p:=hL (a,b) (List.mem_cons_self ..)
  subst this;simp only[List.cons_append,zO,if_neg hk,ih (fun y hy=>hL y (List.mem_cons_of_mem _ hy))]
@[simp] theorem Nd_thaw (n:Nd) (id:Nat):V.thaw id (n.v true 1)=(.agg [.int .i64 n.op,.int .i64 n.a,.int .i64 n.b,.int .i64 n.col,.int .i64 n.test,.int .i64 n.value,.ref id 0 n.cells.length],[(id,⟨false,false,1,ints n.cells,0⟩)],id+1):=Nd.thawT 1 n id
theorem zG1:∀l:List Int,V.tidyL (ints l)=true
 | []=>rfl
 | x::l=>by have:=zG1 l;simp only[ints,List.map_cons,V.tidyL,V.tidy,Bool.true_and] at this ⊢;exact this
@[simp] theorem Nd_tidy (n:Nd):V.tidy (n.v true 1)=true:=by simp[Nd.v,V.tidy,V.tidyL,zG1]
@[simp] theorem qKy (c:List Int) (a:Nat):V.tidy (qZ c a)=decide (c=[]):=by cases c<;>simp[qZ,V.tidy,V.tidyL,bys]
def rightP (l:List Nd):Prop:=1<=l.length/\l.length<=7/\(∀d∈l,d.cells.length<=3)/\(yD l).2=0
theorem rightP.ok {l:List Nd} (h:rightP l):okN l:=fun d hd=>by have:=h.2.2.1 d hd;omega
theorem zSw {l:List Nd} {x:Nd} (h:rightP l) (hl:l.length<7) (hx:x.cells.length<=3) (h0:(yD (l++[x])).2=0):rightP (l++[x]) :=
 ⟨by simp,by simp;omega,fun d hd=>by
  rcases List.mem_append.1 hd with hd|hd
  ·exact h.2.2.1 d hd
  ·simp at hd;rw[hd];exact hx,h0⟩
theorem zBx {ρ:Nat->Option Nat} {vr:Nat->Nat} {q k:Nat} (hq:ρ q=some k) (inj:∀o,ρ o=some k->o=q):∀{O:List (Nat×Ob)} {ob:Ob},zO O q=some ob->zO (zCc ρ vr O) k=some ⟨ob.bx,ob.fx,ob.sz,if ob.bx=true then V.renL ρ vr ob.xs else ob.xs,0⟩
 | [],ob,h=>by cases h
 | (o,b)::r,ob,h=>by
  simp only[zO] at h;split at h
  ·rename_i e
   subst e;cases h;simp only[zCc,hq,zO,if_true]
  ·rename_i e
   have ih:=zBx (vr:=vr) hq inj h;simp only[zCc];cases ho:ρ o with
   | none=>exact ih
   | some k' =>
    simp only[zO];rw[if_neg (fun e2=>e (inj o (by rw[ho,e2])))];exact ih
theorem zHi {E:List (Nat×V)} {O:List (Nat×Ob)} {m q k m3 v0 v1:Nat} {c:List Int} {a:Nat} {pl:List Nd} (h0:zO E 0=some (.ptr 0 0 [])) (h3:zO E 3=some (.ref q 0 m3)) (h4:zO E 4=some (.int .i64 k)) (g0:zO O 0=some ⟨true,false,2,[qZ c a],v0⟩) (gq:zO O q=some ⟨false,false,7,nds true 1 pl,v1⟩) (hm:m3=pl.length) (hq:1<=q) :
  zH 1 (some [0,3,4]) ⟨E,O,m⟩=⟨[(0,.ptr 0 0 []),(3,.ref 1 0 pl.length),(4,.int .i64 k)],[(0,⟨true,false,2,[qZ c a],0⟩),(1,⟨false,false,7,nds true 1 pl,0⟩)],2⟩:=by
 subst hm
 have hids:zGx 1 (zA4 [0,3,4] E) O=[q]:=by
  simp[zGx,zA4,h0,h3,h4,V.mention,vA,g0,gq,zRd,zM3,V.mentionL,hq]
 have r0:zEu 1 [q] 0=some 0:=by simp[zEu]
 have rq:zEu 1 [q] q=some 1:=by simp[zEu,zM7];omega
 have i0:∀o,zEu 1 [q] o=some 0->o=0:=by
  intro o ho;simp only[zEu,zM7] at ho;split at ho
  ·cases ho;rfl
  ·split at ho<;>simp at ho
 have i1:∀o,zEu 1 [q] o=some 1->o=q:=by
  intro o ho;simp only[zEu,zM7] at ho;split at ho
  ·cases ho;omega
  ·split at ho
   ·rename_i h;exact h.symm
   ·cases ho
 have e0:=zBx (vr:=zS3 O) r0 i0 g0;have e1:=zBx (vr:=zS3 O) rq i1 gq;simp only[zH,hids,List.length_singleton,zBf,e0,e1,Option.elim_some,Nat.reduceAdd];simp[zA4,h0,h3,h4,V.ren,r0,rq,zZ8,V.renL,show ¬q=0 by omega]
theorem zTq (c:List Int) (hc:okS c):∀x:Nat×Nat×(List Nd),(x.1<10/\x.2.1+25 * x.1<600000000/\rightP x.2.2)->∀s,zH 1 (some [0,3,4]) s=⟨[(0,.ptr 0 0 []),(3,.ref 1 0 x.2.2.length),(4,.int .i64 x.1)],[(0,⟨true,false,2,[qZ c x.2.1],0⟩),(1,⟨false,false,7,nds true 1 x.2.2,0⟩)],2⟩ ->
 ∃r,oc.loop 186 5 s=some r/\(∃(pl':List Nd) (a':Nat),r=(.exit 0,⟨[(3,.ref 1 0 pl'.length)],[(0,⟨true,false,2,[qZ c a'],0⟩),(1,⟨false,false,7,nds true 1 pl',0⟩)],2⟩)/\rightP pl'/\a'<=x.2.1+25 * x.1):=by
 refine zW6 (σ:=Nat×Nat×(List Nd)) (fun x=>x.1) _ (fun x=>⟨[(0,.ptr 0 0 []),(3,.ref 1 0 x.2.2.length),(4,.int .i64 x.1)],[(0,⟨true,false,2,[qZ c x.2.1],0⟩),(1,⟨false,false,7,nds true 1 x.2.2,0⟩)],2⟩) (fun x r=>∃(pl':List Nd) (a':Nat),r=(.exit 0,⟨[(3,.ref 1 0 pl'.length)],[(0,⟨true,false,2,[qZ c a'],0⟩),(1,⟨false,false,7,nds true 1 pl',0⟩)],2⟩)/\rightP pl'/\a'<=x.2.1+25 * x.1) ?_;rintro⟨k,a,pl⟩ hi ih s hs;simp only at hi;refine qEk (Q:=fun r=>∃(pl':List Nd) (a':Nat),r=(.exit 0,⟨[(3,.ref 1 0 pl'.length)],[(0,⟨true,false,2,[qZ c a'],0⟩),(1,⟨false,false,7,nds true 1 pl',0⟩)],2⟩)/\rightP pl'/\a'<=a+25 * k) qL7 rfl rfl hs ?_;obtain⟨hi1,hi2,hi3⟩:=hi;have hi3':=hi3;obtain⟨r1,r2,r3,r4⟩:=hi3';have hok:=hi3.ok;obtain⟨hg1,hg2,hg3,hg4⟩:=jA hok r4;obtain⟨N,hN⟩:∃N,pl.length=N:=⟨_,rfl⟩;have hn0:=qF c a 11 hc (by omega) (by omega);have hop0:=jL (c:=c) (a:=a) (n:=11) (by omega);obtain⟨op,hop⟩:∃op:Nat,jQ c a 11=(op:Int):=⟨(jQ c a 11).toNat,by omega⟩;rw[hop] at hn0 hop0;obtain⟨q1,q2⟩:=jL (c:=c) (a:=a+1) (n:=pl.length) (by omega);obtain⟨A,hA⟩:∃A:Nat,jQ c (a+1) pl.length=(A:Int):=⟨(jQ c (a+1) pl.length).toNat,by omega⟩;have hAl:A<(jT pl).length:=by omega
 have hw:=xR pl (jT pl) (by omega) hg1 A (by omega) (by omega);have hw2:=hg3 A (by omega);obtain⟨w,hww⟩:∃w:Nat,at0 (jT pl) (A:Int)=(w:Int):=⟨(at0 (jT pl) (A:Int)).toNat,by omega⟩;rw[hww] at hw hw2;obtain⟨q3,q4⟩:=jL (c:=c) (a:=a+2) (n:=3) (by omega);obtain⟨j,hj⟩:∃j:Nat,jQ c (a+2) 3=(j:Int):=⟨(jQ c (a+2) 3).toNat,by omega⟩;have hnx:=qF c (a+1) pl.length hc (by omega) (by omega);rw[hA] at hnx;have hnj:=qF c (a+2) 3 hc (by omega) (by omega);rw[hj] at hnj;have hll:=xO (o:=1) (ver:=0) (xs:=nds true 1 pl) (i:=0);have hlast:∀y:V,(yE 1 0 0 (nds true 1 pl)++[y])[pl.length]? = some y:=fun y=>by rw[List.getElem?_append_right (by rw[hll];simp)];simp[hll]
 have hwl:IntKind.i64.wrap ((pl.length:Int)+1 - 1)=(pl.length:Int):=by rw[qL (by omega) (by omega)];omega
 have hstep:∀{E:List (Nat×V)} {O:List (Nat×Ob)} {m q m3 v0 v1 a' k':Nat} {pl':List Nd},zO E 0=some (.ptr 0 0 [])->zO E 3=some (.ref q 0 m3)->zO E 4=some (.int .i64 (k':Nat))->zO O 0=some ⟨true,false,2,[qZ c a'],v0⟩->zO O q=some ⟨false,false,7,nds true 1 pl',v1⟩->1<=q->m3=pl'.length->k'+1=k->rightP pl'->a'<=a+25->a+25 * k<600000000->∃r,oc.loop 186 5 ⟨E,O,m⟩=some r/\∃(pl':List Nd) (a':Nat),r=(.exit 0,⟨[(3,.ref 1 0 pl'.length)],[(0,⟨true,false,2,[qZ c a'],0⟩),(1,⟨false,false,7,nds true 1 pl',0⟩)],2⟩)/\rightP pl'/\a'<=a+25 * k:=(by intro E O m q m3 v0 v1 a' k' pl' h0 h3 h4 g0 gq hq hm hk hr ha hb;exact(ih (k',a',pl') ⟨by simp only;omega,by simp only;omega,hr⟩ (by simp only;omega) _ (zHi h0 h3 h4 g0 gq hm hq)).imp (fun r h=>⟨h.1,let ⟨x,y,e,h1,h2⟩:=h.2;⟨x,y,e,h1,by simp only at h2;omega⟩⟩));have hwl2:IntKind.i64.wrap (pl.length:Int)=(pl.length:Int):=qL (by omega) (by omega);have hnk:=qF c (a+2) pl.length hc (by omega) (by omega);refine wa_ (wa_ (zB (wM (h:=w_ (b_ (h:=wM (h:=?_)))))));refine gw_ (h1:=?_) (h2:=?_)
 rotate_right 1
 focus
  intro c1;first|exact dn c1|(
   have d1:=c1;try simp at d1
   refine go_ (h:=go_ (h:=go_ (h:=?_))))
 rotate_right 1
 focus
  intro c1;first|exact dn c1|(
   have d1:=c1;try simp at d1
   refine g_ (h:=wM (h:=g_ (h:=w_ (le (h:=g_ (h:=w_ (b_ (h:=?_)))))))))
 all_goals
  refine w_ (pk (h:=nE (h:=?_)))
 all_goals first
 | (
  refine zA ?_;refine c_ (h1:=?_) (h2:=?_)
  rotate_right 1
  focus
   intro c2;first|exact dn c2|(
    have d2:=c2;try simp at d2
    refine zW ?_)
  rotate_right 1
  focus
   intro c2;first|exact dn c2|(
    have d2:=c2;try simp at d2
    refine zC ?_))
 all_goals first|refine zR ?_|(
  refine zA ?_;refine wa_ (zG (wa_ (zOv (h:=wA (oA (h:=bs (h:=wA (oA (h:=m_ (h:=wA ?_))))))))));refine qKk (h:=?_);refine wA (oA (h:=m_ (h:=wA (oA (h:=m_ (h:=?_))))));refine iA zV1 rfl (h:=?_);refine wa_ (zB (w_ (al (h:=nE (h:=zA (wa_ (zB (wM (h:=w_ (le (h:=W3 (h:=nE (h:=zA ?_)))))))))))));refine wa_ (zB (wM (h:=w_ (cP (hc:=hn0) (h:=w_ (b_ (h:=wM (h:=wM (h:=w_ (cP (hc:=hnx) (h:=w_ (bd (h:=w_ (al (h:=w0 (s_ (h:=nE (h:=?_))))))))))))))))));refine zA (wa_ (zB (wM (h:=w_ (f_ (h:=w_ (l_ (h:=w_ (ca (hc:=hw) (h:=W3 (h:=nE (h:=zA (wa_ (wa_ ?_))))))))))))));refine zB (w_ (f_ (h:=w_ (l_ (h:=nE (h:=zA (zG (wa_ (zB (w_ (bE (h:=W3 (h:=nE (h:=zA ?_))))))))))))));refine c_ (h1:=?_) (h2:=?_)
  rotate_right 1
  focus
   intro c3;first|exact dn c3|(
    have d3:=c3;try simp at d3
    refine wa_ (zB (w_ (bE (h:=W3 (h:=nE (h:=zA ?_))))));refine c_ (h1:=?_) (h2:=?_)
    rotate_right 1
    focus
     intro c4;first|exact dn c4|(
      have d4:=c4;try simp at d4
      refine wa_ (zB (w_ (bE (h:=W3 (h:=nE (h:=zA ?_))))));refine c_ (h1:=?_) (h2:=?_)
      rotate_right 1
      focus
       intro c5;first|exact dn c5|(
        have d5:=c5;try simp at d5
        refine wa_ (zB (w_ (bE (h:=W3 (h:=nE (h:=zA ?_))))));refine c_ (h1:=?_) (h2:=?_)
        rotate_right 1
        focus
         intro c6;first|exact dn c6|(
          have d6:=c6;try simp at d6
          refine wa_ (zB (w_ (bE (h:=W3 (h:=nE (h:=zA ?_))))));refine c_ (h1:=?_) (h2:=?_)
          rotate_right 1
          focus
           intro c7;first|exact dn c7|(
            have d7:=c7;try simp at d7
            refine wa_ (wa_ (zB (w_ (bE (h:=W3 (h:=nE (h:=zA ?_)))))));refine c_ (h1:=?_) (h2:=?_)
            rotate_right 1
            focus
             intro c8;first|exact dn c8|(
              have d8:=c8;try simp at d8
              refine wa_ (zB (w_ (bE (h:=W3 (h:=nE (h:=zA ?_))))));refine c_ (h1:=?_) (h2:=?_)
              rotate_right 1
              focus
               intro c9;first|exact dn c9|(
                have d9:=c9;try simp at d9
                refine zB (w_ (bE (h:=W3 (h:=nE (h:=?_))))))
              rotate_right 1
              focus
               intro c9;first|exact dn c9|(
                have d9:=c9;try simp at d9
                refine zC ?_))
            rotate_right 1
            focus
             intro c8;first|exact dn c8|(
              have d8:=c8;try simp at d8
              refine zC ?_)
            all_goals first
            | (
             refine zA ?_;refine c_ (h1:=?_) (h2:=?_)
             rotate_right 1
             focus
              intro c10;first|exact dn c10|(
               have d10:=c10;try simp at d10
               refine zC ?_)
             rotate_right 1
             focus
              intro c10;first|exact dn c10|(
               have d10:=c10;try simp at d10
               refine zB (wM (h:=wM (h:=w_ (cP (hc:=qF c (a+2) w hc (by omega) (by omega)) (h:=w_ (f_ (h:=w0 (s_ (h:=nE (h:=?_)))))))))))))
          rotate_right 1
          focus
           intro c7;first|exact dn c7|(
            have d7:=c7;try simp at d7
            refine zB (wM (h:=wM (h:=w_ ?_)));refine b_ (hv:=zCt (c:=(w:Int)+1) rfl (by omega) (by omega)) (h:=?_);refine w_ (cP (hc:=qF c (a+2) ((w:Int)+1) hc (by omega) (by omega)) (h:=w_ (f_ (h:=w0 (s_ (h:=nE (h:=?_)))))))))
        rotate_right 1
        focus
         intro c6;first|exact dn c6|(
          have d6:=c6;try simp at d6
          refine wa_ (zB (wM (h:=wM (h:=w_ (cP (hc:=hnk) (h:=w_ (f_ (h:=w0 (s_ (h:=nE (h:=zA (zB (wM (h:=wM (h:=?_)))))))))))))));refine w_ (cP (hc:=qF c (a+3) w hc (by omega) (by omega)) (h:=w_ (b_ (h:=w_ (f_ (h:=w0 (s_ (h:=nE (h:=?_)))))))))))
      rotate_right 1
      focus
       intro c5;first|exact dn c5|(
        have d5:=c5;try simp at d5
        refine zB (wM (h:=wM (h:=w_ (cP (hc:=hnk) (h:=w_ (f_ (h:=w0 (s_ (h:=nE (h:=?_))))))))))))
    rotate_right 1
    focus
     intro c4;first|exact dn c4|(
      have d4:=c4;try simp at d4
      refine wa_ (zB (wM (h:=w_ (cP (hc:=hnj) (h:=w_ ?_)))));refine b_ (hv:=zCt (c:=((j+1:Nat):Int)) (by omega) (by omega) (by omega)) (h:=?_);refine W3 (h:=nE (h:=zA (zG ?_)));refine uL zV1 rfl rfl ?_;refine wa_ (wa_ (zB (wM (h:=w_ (b_ (h:=nE (h:=zA ?_)))))));refine c_ (h1:=?_) (h2:=?_)
      rotate_right 1
      focus
       intro c11;first|exact dn c11|(
        have d11:=c11;try simp at d11
        exfalso;simp at c11;omega)
      rotate_right 1
      focus
       intro c11;first|exact dn c11|(
        have d11:=c11;try simp at d11
        refine zC ?_)
      all_goals first|refine zR ?_|(
       refine zA ?_;refine wa_ (zG (qE (y_ (f_ (h:=ax_ (h:=y_ (l_ (h:=ax_ (h:=yM (h:=yM (h:=?_)))))))))))
       first|refine y_ (cP (hc:=qF c (a+3) w hc (by omega) (by omega)) (h:=?_))|refine y_ (cP (hc:=qF c (a+3+1) w hc (by omega) (by omega)) (h:=?_))|refine y_ (cP (hc:=qF c (a+3+1+1) w hc (by omega) (by omega)) (h:=?_))
       refine ax_ (h:=y_ (bs (h:=ax_ (h:=y_ (ap (h:=ax_ (h:=y_ (f_ (h:=ax_ (h:=y0 (s_ (h:=ax_ (h:=qO (ed (h:=zI (zA (zB (wM (h:=w_ ?_)))))))))))))))))));refine b_ (hv:=zFx rfl (by omega) (by omega)) (h:=?_);refine W3 (h:=nE (h:=?_)))
      all_goals first|refine uX ?_|(
       refine uN ?_;refine uL zV1 rfl rfl ?_;refine wa_ (wa_ (zB (wM (h:=w_ (b_ (h:=nE (h:=zA ?_)))))));refine c_ (h1:=?_) (h2:=?_)
       rotate_right 1
       focus
        intro c12;first|exact dn c12|(
         have d12:=c12;try simp at d12
         refine zW ?_)
       rotate_right 1
       focus
        intro c12;first|exact dn c12|(
         have d12:=c12;try simp at d12
         refine zC ?_)
       all_goals first|refine zR ?_|(
        refine zA ?_;refine wa_ (zG (qE (y_ (f_ (h:=ax_ (h:=y_ (l_ (h:=ax_ (h:=yM (h:=yM (h:=?_)))))))))))
        first|refine y_ (cP (hc:=qF c (a+3) w hc (by omega) (by omega)) (h:=?_))|refine y_ (cP (hc:=qF c (a+3+1) w hc (by omega) (by omega)) (h:=?_))|refine y_ (cP (hc:=qF c (a+3+1+1) w hc (by omega) (by omega)) (h:=?_))
        refine ax_ (h:=y_ (bs (h:=ax_ (h:=y_ (ap (h:=ax_ (h:=y_ (f_ (h:=ax_ (h:=y0 (s_ (h:=ax_ (h:=qO (ed (h:=zI (zA (zB (wM (h:=w_ ?_)))))))))))))))))));refine b_ (hv:=zFx rfl (by omega) (by omega)) (h:=?_);refine W3 (h:=nE (h:=?_)))
       all_goals first|refine uX ?_|(
        refine uN ?_;refine uL zV1 rfl rfl ?_;refine wa_ (wa_ (zB (wM (h:=w_ (b_ (h:=nE (h:=zA ?_)))))));refine c_ (h1:=?_) (h2:=?_)
        rotate_right 1
        focus
         intro c13;first|exact dn c13|(
          have d13:=c13;try simp at d13
          refine zW ?_)
        rotate_right 1
        focus
         intro c13;first|exact dn c13|(
          have d13:=c13;try simp at d13
          refine zC ?_)
        all_goals first|refine zR ?_|(
         refine zA ?_;refine wa_ (zG (qE (y_ (f_ (h:=ax_ (h:=y_ (l_ (h:=ax_ (h:=yM (h:=yM (h:=?_)))))))))))
         first|refine y_ (cP (hc:=qF c (a+3) w hc (by omega) (by omega)) (h:=?_))|refine y_ (cP (hc:=qF c (a+3+1) w hc (by omega) (by omega)) (h:=?_))|refine y_ (cP (hc:=qF c (a+3+1+1) w hc (by omega) (by omega)) (h:=?_))
         refine ax_ (h:=y_ (bs (h:=ax_ (h:=y_ (ap (h:=ax_ (h:=y_ (f_ (h:=ax_ (h:=y0 (s_ (h:=ax_ (h:=qO (ed (h:=zI (zA (zB (wM (h:=w_ ?_)))))))))))))))))));refine b_ (hv:=zFx rfl (by omega) (by omega)) (h:=?_);refine W3 (h:=nE (h:=?_)))
        all_goals first|refine uX ?_|(
         refine uN ?_;refine uL zV1 rfl rfl ?_;refine wa_ (wa_ (zB (wM (h:=w_ (b_ (h:=nE (h:=zA ?_)))))));refine c_ (h1:=?_) (h2:=?_)
         rotate_right 1
         focus
          intro c14;first|exact dn c14|(
           have d14:=c14;try simp at d14
           refine zW ?_)
         rotate_right 1
         focus
          intro c14;first|exact dn c14|(
           have d14:=c14;try simp at d14
           exfalso;simp at c14;omega)
         all_goals first|refine zR ?_|(
          refine zA ?_;refine wa_ (zG (qE (y_ (f_ (h:=ax_ (h:=y_ (l_ (h:=ax_ (h:=yM (h:=yM (h:=?_)))))))))))
          first|refine y_ (cP (hc:=qF c (a+3) w hc (by omega) (by omega)) (h:=?_))|refine y_ (cP (hc:=qF c (a+3+1) w hc (by omega) (by omega)) (h:=?_))|refine y_ (cP (hc:=qF c (a+3+1+1) w hc (by omega) (by omega)) (h:=?_))
          refine ax_ (h:=y_ (bs (h:=ax_ (h:=y_ (ap (h:=ax_ (h:=y_ (f_ (h:=ax_ (h:=y0 (s_ (h:=ax_ (h:=qO (ed (h:=zI (zA (zB (wM (h:=w_ ?_)))))))))))))))))));refine b_ (hv:=zFx rfl (by omega) (by omega)) (h:=?_);refine W3 (h:=nE (h:=?_)))
         all_goals first
         | refine uX ?_)))
      all_goals refine zS ?_))
  rotate_right 1
  focus
   intro c3;first|exact dn c3|(
    have d3:=c3;try simp at d3
    refine wa_ (zB (wM (h:=wM (h:=w_ (cP (hc:=qF c (a+2) w hc (by omega) (by omega)) (h:=w_ (f_ (h:=w0 (s_ (h:=nE (h:=zA (wa_ (zB (wM (h:=?_)))))))))))))));refine w_ (cP (hc:=qF c (a+3) 3 hc (by omega) (by omega)) (h:=w_ (f_ (h:=w0 (s_ (h:=nE (h:=zA (zB (wM (h:=w_ (cP (hc:=qF c (a+4) 4 hc (by omega) (by omega)) (h:=w_ (f_ (h:=w0 (s_ (h:=nE (h:=?_))))))))))))))))))
  all_goals refine zI ?_
  all_goals first
  | (
   refine zA ?_;refine wa_ (zB (w_ (l_ (h:=w0 (s_ (h:=nE (h:=zA (zF ?_)))))))))
  all_goals (refine⟨by simp,_,(vY (tys_ok.zero _ _ rfl) rfl (by simp;rfl) (by rfl) zM),by simp,?_⟩)
  all_goals
   refine wA (oA (h:=bs (h:=wA ?_)))
   first|refine zPl (ys:=[Nd.v true 1 ⟨_,_,_,_,_,_,[]⟩]) (m3:=pl.length+1) (hm:=by rw[hll];simp) (hm3:=by simp[hll]) (h:=?_)|refine zPl (ys:=[Nd.v true 1 ⟨_,_,_,_,_,_,[_]⟩]) (m3:=pl.length+1) (hm:=by rw[hll];simp) (hm3:=by simp[hll]) (h:=?_)|refine zPl (ys:=[Nd.v true 1 ⟨_,_,_,_,_,_,[_,_]⟩]) (m3:=pl.length+1) (hm:=by rw[hll];simp) (hm3:=by simp[hll]) (h:=?_)|refine zPl (ys:=[Nd.v true 1 ⟨_,_,_,_,_,_,[_,_,_]⟩]) (m3:=pl.length+1) (hm:=by rw[hll];simp) (hm3:=by simp[hll]) (h:=?_)
   refine wA (oA (h:=a_ (h:=nA (h:=?_))))
  all_goals first
  | (
   refine zA ?_;refine wa_ (zOv (h:=wA (oA (h:=m_ (h:=wA (oA (h:=m_ (h:=wA (oA (h:=le (h:=wA (oA (h:=b_ (h:=wA ?_))))))))))))));refine kA_ix (j:=pl.length) (ha:=by first|(simp[hwl];done)|(simp[hwl2];done)) (hj:=by simp) (hy:=hlast _) (hc:=by rfl) (h:=?_);refine wA ?_;refine oA (h:=f_ (h1:=zF7 rfl rfl (hlast _) rfl (zAg tys_ok (Y:=tys) rfl) ⟨rfl,rfl⟩) (h:=?_));refine wA ?_;refine oA (h:=l_ (h1:=zW3 (tys_ok.zero _ _ rfl) rfl rfl (hlast _) rfl (by simp) rfl rfl ⟨rfl,rfl⟩) (h:=?_));refine wA (oA (h:=bE (h:=wA (oA (h:=m_ (h:=?_))))));refine gwA (h1:=?_) (h2:=?_)
   rotate_right 1
   focus
    intro c15;first|exact dn c15|(
     have d15:=c15;try simp at d15
     refine goA (h:=goA (h:=goA (h:=?_))))
   rotate_right 1
   focus
    intro c15;first|exact dn c15|(
     have d15:=c15;try simp at d15
     refine gA (h:=wA (oA (h:=m_ (h:=gA (h:=wA ?_)))));refine qF1 (hm:=by simp[hll]) (hs:=zXq (by rfl)) (hc:=zOp (pl++[_]) (by simp;omega) (by intro d hd;rcases List.mem_append.1 hd with hd|hd;exact hok d hd;(simp at hd;subst hd;simp))) (h:=?_);refine gA (h:=wA (oA (h:=bE (h:=?_)))))
   all_goals
    refine wA (oA (h:=pk (h:=nA (h:=?_))))
   all_goals first
   | (
    refine zA ?_;refine c_ (h1:=?_) (h2:=?_)
    rotate_right 1
    focus
     intro c16;first|exact dn c16|(
      have d16:=c16;try simp at d16
      refine zC ?_)
    rotate_right 1
    focus
     intro c16;first|exact dn c16|(
      have d16:=c16;try simp at d16
      refine zOv (h:=wA ?_);refine kA_un (h:=?_);intro L hL;refine wA (oA (h:=a_ (h:=nA (h:=?_)))))))
  all_goals refine zI ?_
  all_goals first
  | (
   refine zA ?_;refine zB (wM (h:=w_ ?_));refine b_ (hv:=jZ (c:=k - 1) (by omega) (by omega)) (h:=?_);refine W3 (h:=nE (h:=?_))))
 all_goals first
 | ((refine⟨pl,a,?_,hi3,by omega⟩;refine congrArg (Prod.mk _) ?_;show zH 1 (some [3]) _=_;simp[zH]))
 | (exact hstep rfl rfl rfl rfl rfl (by first|decide|(simp;done)|(simp;omega)) rfl (by simp at *;omega) hi3 (by omega) (by omega))
 | (exact hstep rfl rfl rfl ((zWp hL (by decide)).trans rfl) rfl (by first|decide|(simp;done)|(simp;omega)) (by simp) (by simp at *;omega) (zSw hi3 (by simp at *;omega) (by simp) (by simp at *;assumption)) (by omega) (by omega))
end Go.Proofs.YtbcgenkegnmkhaaGreat.Ev
namespace Go.Proofs.YtbcgenkegnmkhaaGreat.Ev
open Go
set_option maxRecDepth 100000
set_option linter.unusedSimpArgs false
set_option linter.unusedVariables false
set_option maxHeartbeats 2000000
section
variable {call : Call} {id base : Nat} {e : List (Nat × V)} {o : List (Nat × Ob)} {n : Nat} {t : TypeId} {K : V->List (Nat × Ob)->Prop}
theorem apP {args:Array Operand} {ts:Array TypeId} {t1 t2 e1 e2:TypeId} {y z:V} {ys ws bs:List V} {r1:Option (List V×St)} {sz:Nat} {o1:List (Nat×Ob)} {id' q j ver m m2:Nat} {fs:List Nat} {ob:Ob} {x xu:V} (hx:kW e args.toList=some [.plc q j fs ver m,y]:=by exact rfl) (h1:ts[0]? = some t1:=by exact rfl) (h2:ts[1]? = some t2:=by exact rfl) (he1:cf.elem t1=some e1:=by exact tys_ok.elem _ _ rfl) (hz:cf.zero e1=some z:=by exact tys_ok.zero _ _ rfl) (he2:cf.elem t2=some e2:=by exact tys_ok.elem _ _ rfl)
  (hel:St.elems ⟨[],o,n⟩ base y=r1:=by(simp;rfl)) (hel2:r1=some (ys,⟨[],o1,n⟩):=by rfl) (ho:zO o1 q=some ob:=by exact rfl) (hv:ob.ver=ver:=by rfl) (hg:ob.xs[j]? = some x:=by first|assumption|exact zIe (by assumption)) (hgf:kS x fs=some (.lst true sz bs):=by exact rfl) (hl:bs.length=m:=by first|rfl|simp) (hsu:zCv x fs .und=some xu:=by exact rfl)
  (hid:id=id':=by((try simp);rfl)) (hsz:sz=z.cells:=by rfl) (hc:V.cellsAll z.cells ys=true:=by(simp[*];try rfl)) (hw:bs++ys=ws:=by((try simp);rfl)) (hm:ws.length=m2:=by((try simp);rfl)) (hlen:m2<zCe:=by(simp<;>omega))
  (h:K (.ref id' 0 m2) ((id',⟨false,false,z.cells,ws,0⟩)::(q,⟨ob.bx,ob.fx,ob.sz,ob.xs.set j xu,ver+1⟩)::o1)):opK call cf id base e o n t (.call ⟨.builtin .append,args,ts⟩) K:=by
 subst hl hv;have hget:ob.get j fs=some (.lst true sz bs):=by simp only[Ob.get,hg,hgf]
 have hset:ob.set j fs .und=some { ob with xs:=ob.xs.set j xu }:=by simp only[Ob.set,hg,hsu,zJ]
 have hat:St.at ⟨[],o1,n⟩ q j fs ob.ver bs.length=some (sz,bs,ob):=by simp only[St.at,ho,hget,if_true]
 have htk:St.take ⟨[],o1,n⟩ q j fs ob.ver bs.length=some (sz,bs,⟨[],(q,⟨ob.bx,ob.fx,ob.sz,ob.xs.set j xu,ob.ver+1⟩)::o1,n⟩):=by simp only[St.take,hat,hset,zJ,xC]
 exact zMf hx h1 h2 he1 hz he2 hel hel2 htk rfl hid hsz hc hw hm hlen h
end
end Go.Proofs.YtbcgenkegnmkhaaGreat.Ev
