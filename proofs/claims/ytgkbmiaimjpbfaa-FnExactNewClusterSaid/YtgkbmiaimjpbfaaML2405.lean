/- Part 5 of the proof that the law named in the last part returns true at every argument: an evaluator of the program, shown sound, and its runs. No further conditions. -/
import Derived.Test.YtgkbmiaimjpbfaaML2404
namespace Go.Proofs.Ytgkbmiaimjpbfaa.Ev
open Go
set_option maxRecDepth 100000
set_option linter.unusedSimpArgs false
set_option linter.unusedVariables false
set_option maxHeartbeats 2000000
theorem l_eqG (a b : List Int) (z z' : Nat) (ha : a.length < 4000000000) (hab : a.length = b.length) : ∀ i : Nat,i ≤ a.length → ∀ s,normE 2 (some [0,1,12,13]) s = ⟨[(0,.lst false z (ints a)),(1,.lst false z' (ints b)),(12,.int .i64 a.length),(13,.int .i64 i)],[],2⟩ →
 oc.loop 186 4 s = some (if a.drop i = b.drop i then (.exit 0,⟨[],[],2⟩) else (.ret,⟨[(4,.bool false)],[],2⟩)) := by
 refine loop_ind (fun i => a.length - i) _ (fun i => ⟨[(0,.lst false z (ints a)),(1,.lst false z' (ints b)),(12,.int .i64 a.length),(13,.int .i64 i)],[],2⟩) _ ?_
 intro i hi ih s hs
 refine loop_s cd186 rfl rfl hs ?_
 refine wa_ (wc_region (w_ (b_ (h:=wo_nil (e_ (h:=aft_normal (wa_ (?_))))))))
 refine c_ (h1:=?_) (h2:=?_)
 rotate_right 1
 focus
  intro c1
  simp at c1;have : i = a.length := (by omega);subst this
  refine wc_exit (?_)
 rotate_right 1
 focus
  intro c1
  simp at c1;have hw := wrap_succ (i:=i) (by omega);obtain ⟨x,_,d1,g1⟩ := ints_cut c1;obtain ⟨y,_,d2,g2⟩ := ints_cut (l:=b) (i:=i) (by omega)
  refine wc_skip (?_)
 all_goals first
 | refine aft_exit ?_
 | (
  refine aft_normal ?_
  refine wa_ (wc_block (wa_ (wc_region (w_ (m_ (h:=w_ (a_ (h:=wo_nil (e_ (h:=aft_normal (wa_ (wc_draw (y_ (m_ (h:=ax_ (h:=y_ (m_ (h:=ax_ (h:=?_)))))))))))))))))))
  refine y_ (x_ (h:=ax_ (h:=y_ (l_ (h:=ax_ (h:=y_ (m_ (h:=ax_ (h:=y_ (m_ (h:=ax_ (h:=y_ (x_ (h:=ax_ (h:=y_ (l_ (h:=ax_ (h:=y_ (bE (h:=ax_ (h:=wo_nil (ed (h:=aft_normal (?_))))))))))))))))))))))))
  refine c_ (h1:=?_) (h2:=?_)
  rotate_right 1
  focus
   intro c2
   refine wc_skip (?_)
  rotate_right 1
  focus
   intro c2
   refine wa_ (wc_region (w_ (a_ (h:=wo_nil (e_ (h:=aft_normal (wc_ret (?_))))))))
  all_goals first | refine blk_normal ?_ | refine blk_ret ?_
  all_goals first
  | refine aft_ret ?_
  | (
   refine aft_normal ?_
   refine wc_region (w_ (b_ (h:=w_ (m_ (h:=wo_nil (e_ (h:=?_)))))))
   )
  )
 all_goals first
 | (refine (ih (i + 1) (by omega) ?_ _ ?_).trans ?_;(focus (first | omega | (simp;done) | (simp;omega)));(focus (simp [normE,hw];done));(focus (simp at c2;rw [d1,d2];simp [c2])))
 | (apply end_leaf (ex:=Ext.ret) 2 (some [4]);(focus (simp [normE];rfl));(focus (simp at c2;rw [d1,d2];simp [c2])))
 | (apply end_leaf (ex:=(Ext.exit 0)) 2 (some [4]);(focus (simp [normE];rfl));(focus (rw [if_pos (by simp [hab])])))
theorem e_eqG (a b : List Int) (z z' : Nat) (ha : a.length < 4000000000) (hb : b.length < 4000000000) : oc.call 186 [.lst false z (ints a),.lst false z' (ints b)] = some (.bool (decide (a = b)),[]) := by
 refine fun_s rfl cd186 rfl rfl rfl (by simp;rfl) (by simp;rfl) ?_
 refine wa_ (wc_region (w_ (a_ (h:=wo_nil (e_ (h:=aft_normal (wa_ (wa_ (wc_region (w_ (m_ (h:=w_ (le (h:=w_ (m_ (h:=w_ (le (h:=?_))))))))))))))))))
 refine w_ (bE (h:=wo_nil (e_ (h:=aft_normal (?_)))))
 refine c_ (h1:=?_) (h2:=?_)
 rotate_right 1
 focus
  intro c1
  simp at c1
  refine wc_skip (?_)
 rotate_right 1
 focus
  intro c1
  simp at c1;have hne : a ≠ b := (by rintro rfl;exact c1 rfl)
  refine wa_ (wc_region (w_ (a_ (h:=wo_nil (e_ (h:=aft_normal (wc_ret (?_))))))))
 all_goals first
 | refine aft_ret ?_
 | (
  refine aft_normal ?_
  refine wa_ (wa_ (wc_region (w_ (m_ (h:=w_ (le (h:=w_ (m_ (h:=wo_nil (e_ (h:=aft_normal (wc_block (?_)))))))))))))
  refine wc_loopI (l_eqG a b z z' ha (by omega) 0 (by omega) _ (by simp [normE])) ?_ ?_
  rotate_right 1
  focus
   intro c2
   skip
  rotate_right 1
  focus
   intro c2
   skip
  all_goals first | refine blk_ret ?_ | refine blk_exit ?_
  all_goals first
  | refine aft_ret ?_
  | (
   refine aft_normal ?_
   refine wa_ (wc_region (w_ (a_ (h:=wo_nil (e_ (h:=aft_normal (wc_ret (?_))))))))
   )
  )
 all_goals (refine fin_ (hr:=(res_tmp rfl res_nil)) (h:=?_);(focus (first | (simp_all;done) | (simp_all <;> omega) | (simp_all <;> split <;> simp_all <;> omega))))
theorem e_same (z z' : Nat) (d g : Nd) (ha : d.cells.length < 4000000) (hb : g.cells.length < 4000000) : oc.call 168 [d.v false z,g.v false z'] = some (.bool (decide (d = g)),[]) := by
 refine fun_s rfl cd168 rfl rfl rfl (by simp;rfl) (by simp;rfl) ?_
 refine wa_ (wc_region (w_ (bx (h:=w_ (bx (h:=w_ (a_ (h:=wo_nil (e_ (h:=aft_normal (wa_ (wc_region (w_ (f_ (h:=w_ (l_ (h:=w_ (f_ (h:=?_)))))))))))))))))))
 refine w_ (l_ (h:=w_ (bE (h:=w_ (m_ (h:=?_))))))
 refine gw_ (h1:=?_) (h2:=?_)
 rotate_right 1
 focus
  intro c1
  first
  | exact dn c1
  | (
   have d1 := c1;try simp at d1
   refine go_ (h:=go_ (h:=go_ (h:=go_ (h:=go_ (h:=?_)))))
   )
 rotate_right 1
 focus
  intro c1
  first
  | exact dn c1
  | (
   have d1 := c1;try simp at d1
   refine g_ (h:=w_ (f_ (h:=g_ (h:=w_ (l_ (h:=g_ (h:=w_ (f_ (h:=g_ (h:=w_ (l_ (h:=g_ (h:=w_ (bE (h:=?_)))))))))))))))
   )
 all_goals
  refine w_ (pk (h:=w_ (m_ (h:=?_))))
  refine gw_ (h1:=?_) (h2:=?_)
  rotate_right 1
  focus
   intro c2
   first
   | exact dn c2
   | (
    have d2 := c2;try simp at d2
    refine go_ (h:=go_ (h:=go_ (h:=go_ (h:=go_ (h:=?_)))))
    )
  rotate_right 1
  focus
   intro c2
   first
   | exact dn c2
   | (
    have d2 := c2;try simp at d2
    refine g_ (h:=w_ (f_ (h:=g_ (h:=w_ (l_ (h:=g_ (h:=w_ (f_ (h:=g_ (h:=w_ (l_ (h:=g_ (h:=w_ (bE (h:=?_)))))))))))))))
    )
  all_goals
   refine w_ (pk (h:=w_ (m_ (h:=?_))))
   refine gw_ (h1:=?_) (h2:=?_)
   rotate_right 1
   focus
    intro c3
    first
    | exact dn c3
    | (
     have d3 := c3;try simp at d3
     refine go_ (h:=go_ (h:=go_ (h:=go_ (h:=go_ (h:=?_)))))
     )
   rotate_right 1
   focus
    intro c3
    first
    | exact dn c3
    | (
     have d3 := c3;try simp at d3
     refine g_ (h:=w_ (f_ (h:=g_ (h:=w_ (l_ (h:=g_ (h:=w_ (f_ (h:=g_ (h:=w_ (l_ (h:=g_ (h:=w_ (bE (h:=?_)))))))))))))))
     )
   all_goals
    refine w_ (pk (h:=w_ (m_ (h:=?_))))
    refine gw_ (h1:=?_) (h2:=?_)
    rotate_right 1
    focus
     intro c4
     first
     | exact dn c4
     | (
      have d4 := c4;try simp at d4
      refine go_ (h:=go_ (h:=go_ (h:=go_ (h:=go_ (h:=?_)))))
      )
    rotate_right 1
    focus
     intro c4
     first
     | exact dn c4
     | (
      have d4 := c4;try simp at d4
      refine g_ (h:=w_ (f_ (h:=g_ (h:=w_ (l_ (h:=g_ (h:=w_ (f_ (h:=g_ (h:=w_ (l_ (h:=g_ (h:=w_ (bE (h:=?_)))))))))))))))
      )
    all_goals
     refine w_ (pk (h:=w_ (m_ (h:=?_))))
     refine gw_ (h1:=?_) (h2:=?_)
     rotate_right 1
     focus
      intro c5
      first
      | exact dn c5
      | (
       have d5 := c5;try simp at d5
       refine go_ (h:=go_ (h:=go_ (h:=go_ (h:=go_ (h:=?_)))))
       )
     rotate_right 1
     focus
      intro c5
      first
      | exact dn c5
      | (
       have d5 := c5;try simp at d5
       refine g_ (h:=w_ (f_ (h:=g_ (h:=w_ (l_ (h:=g_ (h:=w_ (f_ (h:=g_ (h:=w_ (l_ (h:=g_ (h:=w_ (bE (h:=?_)))))))))))))))
       )
     all_goals
      refine w_ (pk (h:=w_ (m_ (h:=?_))))
      refine gw_ (h1:=?_) (h2:=?_)
      rotate_right 1
      focus
       intro c6
       first
       | exact dn c6
       | (
        have d6 := c6;try simp at d6
        refine go_ (h:=go_ (h:=go_ (h:=go_ (h:=go_ (h:=?_)))))
        )
      rotate_right 1
      focus
       intro c6
       first
       | exact dn c6
       | (
        have d6 := c6;try simp at d6
        refine g_ (h:=w_ (f_ (h:=g_ (h:=w_ (l_ (h:=g_ (h:=w_ (f_ (h:=g_ (h:=w_ (l_ (h:=g_ (h:=w_ (ca (hc:=e_eqG _ _ _ _ (by omega) (by omega)) (h:=?_)))))))))))))))
        )
      all_goals
       refine w_ (pk (h:=w_ (a_ (h:=wo_nil (e_ (h:=?_))))))
 all_goals first
 | (
  refine aft_normal ?_
  refine wc_ret (?_)
  )
 all_goals (refine fin_ (hr:=(res_tmp rfl res_nil)) (h:=?_);(focus (simp [Nd.eq_iff];grind)))
def readsN (d : Nd) : List Int := if d.op = 1 then [] else if d.op = 4 ∨ d.op = 6 then [d.a,d.b] else [d.a]
theorem e_reads (z : Nat) (d : Nd) : oc.call 170 [d.v false z] = some (.lst true 1 (ints (readsN d)),[]) := by
 refine fun_s rfl cd170 rfl rfl rfl (by simp;rfl) (by simp;rfl) ?_
 refine wa_ (wc_region (w_ (bx (h:=w_ (aN (h:=wo_nil (e_ (h:=aft_normal (wa_ (wc_block (wa_ (wc_region (w_ (f_ (h:=w_ (l_ (h:=?_)))))))))))))))))
 refine w_ (bE (h:=w_ (a_ (h:=wo_nil (e_ (h:=aft_normal (?_)))))))
 refine c_ (h1:=?_) (h2:=?_)
 rotate_right 1
 focus
  intro c1
  first
  | exact dn c1
  | (
   have d1 := c1;try simp at d1
   refine wa_ (wc_region (w_ (f_ (h:=w_ (l_ (h:=w_ (ca (hc:=e_two _) (h:=w_ (a_ (h:=wo_nil (e_ (h:=aft_normal (?_)))))))))))))
   refine c_ (h1:=?_) (h2:=?_)
   rotate_right 1
   focus
    intro c2
    first
    | exact dn c2
    | (
     have d2 := c2;try simp at d2
     refine wc_skip (?_)
     )
   rotate_right 1
   focus
    intro c2
    first
    | exact dn c2
    | (
     have d2 := c2;try simp at d2
     refine wa_ (wc_region (w_ (f_ (h:=w_ (l_ (h:=w_ (f_ (h:=w_ (l_ (h:=w_ (bs (h:=w_ (a_ (h:=wo_nil (e_ (h:=aft_normal (wc_ret (?_))))))))))))))))))
     )
   )
 rotate_right 1
 focus
  intro c1
  first
  | exact dn c1
  | (
   have d1 := c1;try simp at d1
   refine wa_ (wc_region (w_ (aN (h:=wo_nil (e_ (h:=aft_normal (wc_ret (?_))))))))
   )
 all_goals first | refine blk_normal ?_ | refine blk_ret ?_
 all_goals first
 | refine aft_ret ?_
 | (
  refine aft_normal ?_
  refine wa_ (wc_region (w_ (f_ (h:=w_ (l_ (h:=w_ (bs (h:=w_ (a_ (h:=wo_nil (e_ (h:=aft_normal (wc_ret (?_))))))))))))))
  )
 all_goals (refine fin_ (hr:=(res_tmp rfl res_nil)) (h:=?_);(focus (simp_all [readsN])))
def plainN (d : Nd) : Nd := ⟨d.op,if d.op = 1 then 0 else d.a,if d.op = 4 ∨ d.op = 6 then d.b else 0,if d.op = 1 ∨ d.op = 2 ∨ 6 ≤ d.op ∧ d.op ≤ 10 then d.col else 0,if d.op = 2 then d.test else 0,if d.op = 2 then d.value else 0,if d.op = 3 then d.cells else []⟩
theorem e_plain3 (z : Nat) (d : Nd) (h : d.op = 3) : oc.call 169 [d.v false z] = some ((plainN d).v false z,[]) := by
 refine fun_s rfl cd169 rfl rfl rfl (by simp;rfl) (by simp;rfl) ?_
 refine wa_ (wc_region (w_ (bx (h:=w_ (al (h:=wo_nil (e_ (h:=aft_normal (wa_ (wc_region (w_ (f_ (h:=w_ (l_ (h:=w_ (bd (h:=w_ (al (h:=?_)))))))))))))))))))
 refine w0 (s_ (h:=wo_nil (e_ (h:=aft_normal (wa_ (wa_ (wc_region (w_ (f_ (h:=w_ (l_ (h:=w_ (bE (h:=wo_nil (e_ (h:=aft_normal (?_)))))))))))))))))
 refine c_ (h1:=?_) (h2:=?_)
 rotate_right 1
 focus
  intro c1
  first
  | exact dn c1
  | (
   have d1 := c1;try simp at d1
   refine wc_skip (?_)
   )
 rotate_right 1
 focus
  intro c1
  first
  | exact dn c1
  | (
   have d1 := c1;try simp at d1
   refine wc_region (w_ (f_ (h:=w_ (l_ (h:=w_ (f_ (h:=w0 (s_ (h:=wo_nil (e_ (h:=?_)))))))))))
   )
 all_goals first
 | (
  refine aft_normal ?_
  refine wa_ (wa_ (wc_region (w_ (f_ (h:=w_ (l_ (h:=w_ (ca (hc:=e_two _) (h:=wo_nil (e_ (h:=aft_normal (?_))))))))))))
  refine c_ (h1:=?_) (h2:=?_)
  rotate_right 1
  focus
   intro c2
   first
   | exact dn c2
   | (
    have d2 := c2;try simp at d2
    refine wc_skip (?_)
    )
  rotate_right 1
  focus
   intro c2
   first
   | exact dn c2
   | (
    have d2 := c2;try simp at d2
    refine wc_region (w_ (f_ (h:=w_ (l_ (h:=w_ (f_ (h:=w0 (s_ (h:=wo_nil (e_ (h:=?_)))))))))))
    )
  all_goals first
  | (
   refine aft_normal ?_
   refine wa_ (wa_ (wc_region (w_ (f_ (h:=w_ (l_ (h:=wo_nil (e_ (h:=aft_normal (wc_block (wa_ (wa_ (wc_region (w_ (bE (h:=?_))))))))))))))))
   refine w_ (a_ (h:=wo_nil (e_ (h:=aft_normal (?_)))))
   refine c_ (h1:=?_) (h2:=?_)
   rotate_right 1
   focus
    intro c3
    first
    | exact dn c3
    | (
     have d3 := c3;try simp at d3
     refine wa_ (wc_region (w_ (bE (h:=w_ (a_ (h:=wo_nil (e_ (h:=aft_normal (?_)))))))))
     refine c_ (h1:=?_) (h2:=?_)
     rotate_right 1
     focus
      intro c4
      first
      | exact dn c4
      | (
       have d4 := c4;try simp at d4
       refine wa_ (wc_region (w_ (bE (h:=w_ (a_ (h:=wo_nil (e_ (h:=aft_normal (?_)))))))))
       refine c_ (h1:=?_) (h2:=?_)
       rotate_right 1
       focus
        intro c5
        first
        | exact dn c5
        | (
         have d5 := c5;try simp at d5
         refine wa_ (wc_region (w_ (bE (h:=w_ (a_ (h:=wo_nil (e_ (h:=aft_normal (?_)))))))))
         refine c_ (h1:=?_) (h2:=?_)
         rotate_right 1
         focus
          intro c6
          first
          | exact dn c6
          | (
           have d6 := c6;try simp at d6
           refine wa_ (wc_region (w_ (bE (h:=w_ (a_ (h:=wo_nil (e_ (h:=aft_normal (?_)))))))))
           refine c_ (h1:=?_) (h2:=?_)
           rotate_right 1
           focus
            intro c7
            first
            | exact dn c7
            | (
             have d7 := c7;try simp at d7
             refine wc_region (w_ (bE (h:=w_ (a_ (h:=wo_nil (e_ (h:=?_)))))))
             )
           rotate_right 1
           focus
            intro c7
            first
            | exact dn c7
            | (
             have d7 := c7;try simp at d7
             refine wc_skip (?_)
             )
           )
         rotate_right 1
         focus
          intro c6
          first
          | exact dn c6
          | (
           have d6 := c6;try simp at d6
           refine wc_skip (?_)
           )
         )
       rotate_right 1
       focus
        intro c5
        first
        | exact dn c5
        | (
         have d5 := c5;try simp at d5
         refine wc_skip (?_)
         )
       )
     rotate_right 1
     focus
      intro c4
      first
      | exact dn c4
      | (
       have d4 := c4;try simp at d4
       refine wc_skip (?_)
       )
     )
   rotate_right 1
   focus
    intro c3
    first
    | exact dn c3
    | (
     have d3 := c3;try simp at d3
     refine wc_skip (?_)
     )
   all_goals first
   | (
    refine aft_normal ?_
    refine c_ (h1:=?_) (h2:=?_)
    rotate_right 1
    focus
     intro c8
     first
     | exact dn c8
     | (
      have d8 := c8;try simp at d8
      refine wa_ (wc_region (w_ (bE (h:=w_ (a_ (h:=wo_nil (e_ (h:=aft_normal (?_)))))))))
      refine c_ (h1:=?_) (h2:=?_)
      rotate_right 1
      focus
       intro c9
       first
       | exact dn c9
       | (
        have d9 := c9;try simp at d9
        refine wa_ (wc_region (w_ (bE (h:=w_ (a_ (h:=wo_nil (e_ (h:=aft_normal (?_)))))))))
        refine c_ (h1:=?_) (h2:=?_)
        rotate_right 1
        focus
         intro c10
         first
         | exact dn c10
         | (
          have d10 := c10;try simp at d10
          refine wc_skip (?_)
          )
        rotate_right 1
        focus
         intro c10
         first
         | exact dn c10
         | (
          have d10 := c10;try simp at d10
          refine wc_region (w_ (f_ (h:=w_ (l_ (h:=w_ (f_ (h:=w0 (s_ (h:=wo_nil (e_ (h:=?_)))))))))))
          )
        )
      rotate_right 1
      focus
       intro c9
       first
       | exact dn c9
       | (
        have d9 := c9;try simp at d9
        refine wc_draw (y_ (f_ (h:=ax_ (h:=y_ (l_ (h:=ax_ (h:=y_ (f_ (h:=ax_ (h:=y_ (l_ (h:=ax_ (h:=y_ (f_ (h:=ax_ (h:=y_ (l_ (h:=ax_ (h:=y_ (f_ (h:=ax_ (h:=y0 (s_ (h:=ax_ (h:=y_ (f_ (h:=ax_ (h:=y0 (s_ (h:=ax_ (h:=y_ (f_ (h:=ax_ (h:=?_))))))))))))))))))))))))))))))))))
        refine y0 (s_ (h:=ax_ (h:=wo_nil (ed (h:=?_)))))
        )
      )
    rotate_right 1
    focus
     intro c8
     first
     | exact dn c8
     | (
      have d8 := c8;try simp at d8
      refine wc_region (w_ (f_ (h:=w_ (l_ (h:=w_ (f_ (h:=w0 (s_ (h:=wo_nil (e_ (h:=?_)))))))))))
      )
    )
   all_goals refine blk_normal ?_
   all_goals first
   | (
    refine aft_normal ?_
    refine wa_ (wc_region (w_ (l_ (h:=w0 (s_ (h:=wo_nil (e_ (h:=aft_normal (wc_ret (?_))))))))))
    )
   )
  )
 all_goals (refine fin_ (hr:=(res_cell (tys_ok.zero _ _ rfl) rfl (by simp;rfl) (by rfl) res_nil)) (h:=?_);(focus (simp [Nd.v,plainN];grind)))
theorem e_plain (z : Nat) (d : Nd) (h : d.op ≠ 3) : oc.call 169 [d.v false z] = some ((plainN d).v true 1,[]) := by
 refine fun_s rfl cd169 rfl rfl rfl (by simp;rfl) (by simp;rfl) ?_
 refine wa_ (wc_region (w_ (bx (h:=w_ (al (h:=wo_nil (e_ (h:=aft_normal (wa_ (wc_region (w_ (f_ (h:=w_ (l_ (h:=w_ (bd (h:=w_ (al (h:=?_)))))))))))))))))))
 refine w0 (s_ (h:=wo_nil (e_ (h:=aft_normal (wa_ (wa_ (wc_region (w_ (f_ (h:=w_ (l_ (h:=w_ (bE (h:=wo_nil (e_ (h:=aft_normal (?_)))))))))))))))))
 refine c_ (h1:=?_) (h2:=?_)
 rotate_right 1
 focus
  intro c1
  first
  | exact dn c1
  | (
   have d1 := c1;try simp at d1
   refine wc_skip (?_)
   )
 rotate_right 1
 focus
  intro c1
  first
  | exact dn c1
  | (
   have d1 := c1;try simp at d1
   refine wc_region (w_ (f_ (h:=w_ (l_ (h:=w_ (f_ (h:=w0 (s_ (h:=wo_nil (e_ (h:=?_)))))))))))
   )
 all_goals first
 | (
  refine aft_normal ?_
  refine wa_ (wa_ (wc_region (w_ (f_ (h:=w_ (l_ (h:=w_ (ca (hc:=e_two _) (h:=wo_nil (e_ (h:=aft_normal (?_))))))))))))
  refine c_ (h1:=?_) (h2:=?_)
  rotate_right 1
  focus
   intro c2
   first
   | exact dn c2
   | (
    have d2 := c2;try simp at d2
    refine wc_skip (?_)
    )
  rotate_right 1
  focus
   intro c2
   first
   | exact dn c2
   | (
    have d2 := c2;try simp at d2
    refine wc_region (w_ (f_ (h:=w_ (l_ (h:=w_ (f_ (h:=w0 (s_ (h:=wo_nil (e_ (h:=?_)))))))))))
    )
  all_goals first
  | (
   refine aft_normal ?_
   refine wa_ (wa_ (wc_region (w_ (f_ (h:=w_ (l_ (h:=wo_nil (e_ (h:=aft_normal (wc_block (wa_ (wa_ (wc_region (w_ (bE (h:=?_))))))))))))))))
   refine w_ (a_ (h:=wo_nil (e_ (h:=aft_normal (?_)))))
   refine c_ (h1:=?_) (h2:=?_)
   rotate_right 1
   focus
    intro c3
    first
    | exact dn c3
    | (
     have d3 := c3;try simp at d3
     refine wa_ (wc_region (w_ (bE (h:=w_ (a_ (h:=wo_nil (e_ (h:=aft_normal (?_)))))))))
     refine c_ (h1:=?_) (h2:=?_)
     rotate_right 1
     focus
      intro c4
      first
      | exact dn c4
      | (
       have d4 := c4;try simp at d4
       refine wa_ (wc_region (w_ (bE (h:=w_ (a_ (h:=wo_nil (e_ (h:=aft_normal (?_)))))))))
       refine c_ (h1:=?_) (h2:=?_)
       rotate_right 1
       focus
        intro c5
        first
        | exact dn c5
        | (
         have d5 := c5;try simp at d5
         refine wa_ (wc_region (w_ (bE (h:=w_ (a_ (h:=wo_nil (e_ (h:=aft_normal (?_)))))))))
         refine c_ (h1:=?_) (h2:=?_)
         rotate_right 1
         focus
          intro c6
          first
          | exact dn c6
          | (
           have d6 := c6;try simp at d6
           refine wa_ (wc_region (w_ (bE (h:=w_ (a_ (h:=wo_nil (e_ (h:=aft_normal (?_)))))))))
           refine c_ (h1:=?_) (h2:=?_)
           rotate_right 1
           focus
            intro c7
            first
            | exact dn c7
            | (
             have d7 := c7;try simp at d7
             refine wc_region (w_ (bE (h:=w_ (a_ (h:=wo_nil (e_ (h:=?_)))))))
             )
           rotate_right 1
           focus
            intro c7
            first
            | exact dn c7
            | (
             have d7 := c7;try simp at d7
             refine wc_skip (?_)
             )
           )
         rotate_right 1
         focus
          intro c6
          first
          | exact dn c6
          | (
           have d6 := c6;try simp at d6
           refine wc_skip (?_)
           )
         )
       rotate_right 1
       focus
        intro c5
        first
        | exact dn c5
        | (
         have d5 := c5;try simp at d5
         refine wc_skip (?_)
         )
       )
     rotate_right 1
     focus
      intro c4
      first
      | exact dn c4
      | (
       have d4 := c4;try simp at d4
       refine wc_skip (?_)
       )
     )
   rotate_right 1
   focus
    intro c3
    first
    | exact dn c3
    | (
     have d3 := c3;try simp at d3
     refine wc_skip (?_)
     )
   all_goals first
   | (
    refine aft_normal ?_
    refine c_ (h1:=?_) (h2:=?_)
    rotate_right 1
    focus
     intro c8
     first
     | exact dn c8
     | (
      have d8 := c8;try simp at d8
      refine wa_ (wc_region (w_ (bE (h:=w_ (a_ (h:=wo_nil (e_ (h:=aft_normal (?_)))))))))
      refine c_ (h1:=?_) (h2:=?_)
      rotate_right 1
      focus
       intro c9
       first
       | exact dn c9
       | (
        have d9 := c9;try simp at d9
        refine wa_ (wc_region (w_ (bE (h:=w_ (a_ (h:=wo_nil (e_ (h:=aft_normal (?_)))))))))
        refine c_ (h1:=?_) (h2:=?_)
        rotate_right 1
        focus
         intro c10
         first
         | exact dn c10
         | (
          have d10 := c10;try simp at d10
          refine wc_skip (?_)
          )
        rotate_right 1
        focus
         intro c10
         first
         | exact dn c10
         | (
          have d10 := c10;try simp at d10
          refine wc_region (w_ (f_ (h:=w_ (l_ (h:=w_ (f_ (h:=w0 (s_ (h:=wo_nil (e_ (h:=?_)))))))))))
          )
        )
      rotate_right 1
      focus
       intro c9
       first
       | exact dn c9
       | (
        have d9 := c9;try simp at d9
        refine wc_draw (y_ (f_ (h:=ax_ (h:=y_ (l_ (h:=ax_ (h:=y_ (f_ (h:=ax_ (h:=y_ (l_ (h:=ax_ (h:=y_ (f_ (h:=ax_ (h:=y_ (l_ (h:=ax_ (h:=y_ (f_ (h:=ax_ (h:=y0 (s_ (h:=ax_ (h:=y_ (f_ (h:=ax_ (h:=y0 (s_ (h:=ax_ (h:=y_ (f_ (h:=ax_ (h:=?_))))))))))))))))))))))))))))))))))
        refine y0 (s_ (h:=ax_ (h:=wo_nil (ed (h:=?_)))))
        )
      )
    rotate_right 1
    focus
     intro c8
     first
     | exact dn c8
     | (
      have d8 := c8;try simp at d8
      refine wc_region (w_ (f_ (h:=w_ (l_ (h:=w_ (f_ (h:=w0 (s_ (h:=wo_nil (e_ (h:=?_)))))))))))
      )
    )
   all_goals refine blk_normal ?_
   all_goals first
   | (
    refine aft_normal ?_
    refine wa_ (wc_region (w_ (l_ (h:=w0 (s_ (h:=wo_nil (e_ (h:=aft_normal (wc_ret (?_))))))))))
    )
   )
  )
 all_goals (refine fin_ (hr:=(res_cell (tys_ok.zero _ _ rfl) rfl (by simp;rfl) (by rfl) res_nil)) (h:=?_);(focus (simp [Nd.v,plainN,h];grind)))
def at0 (w : List Int) (a : Int) : Int := w.getD a.toNat 0
theorem ints_ix {w : List Int} {a : Int} (h0 : 0 ≤ a) (h : a < w.length) : (ints w)[a.toNat]? = some (.int .i64 (at0 w a)) := by
  have : a.toNat < w.length := by omega
  simp [ints,at0,this]
def widthN (d : Nd) (w : List Int) : Int :=
  if d.op = 1 then d.col else if d.op = 3 then d.cells.length else if d.op = 6 then IntKind.i64.wrap (IntKind.i64.wrap (at0 w d.a + at0 w d.b) - d.col) else if inI d.op 7 10 then IntKind.i64.wrap (d.col + 1) else at0 w d.a
def fitN (d : Nd) (m : Nat) : Prop := (d.op ≠ 1 → 0 ≤ d.a ∧ d.a < m) ∧ (d.op = 4 ∨ d.op = 6 → 0 ≤ d.b ∧ d.b < m)
theorem e_width (z z' : Nat) (d : Nd) (w : List Int) (hd : d.cells.length < 4000000) (h : fitN d w.length) : oc.call 172 [d.v false z,.lst false z' (ints w)] = some (.int .i64 (widthN d w),[]) := by
 refine fun_s rfl cd172 rfl rfl rfl (by simp;rfl) (by simp;rfl) ?_
 obtain ⟨h1,h2⟩ := h
 refine wa_ (wc_region (w_ (bx (h:=w_ (a_ (h:=wo_nil (e_ (h:=aft_normal (wa_ (wc_block (wa_ (wc_region (w_ (f_ (h:=w_ (l_ (h:=?_)))))))))))))))))
 refine w_ (bE (h:=w_ (a_ (h:=wo_nil (e_ (h:=aft_normal (?_)))))))
 refine c_ (h1:=?_) (h2:=?_)
 rotate_right 1
 focus
  intro c1
  first
  | exact dn c1
  | (
   have d1 := c1;try simp at d1
   refine wa_ (wc_region (w_ (f_ (h:=w_ (l_ (h:=w_ (bE (h:=w_ (a_ (h:=wo_nil (e_ (h:=aft_normal (?_)))))))))))))
   refine c_ (h1:=?_) (h2:=?_)
   rotate_right 1
   focus
    intro c2
    first
    | exact dn c2
    | (
     have d2 := c2;try simp at d2
     refine wa_ (wc_region (w_ (f_ (h:=w_ (l_ (h:=w_ (bE (h:=w_ (a_ (h:=wo_nil (e_ (h:=aft_normal (?_)))))))))))))
     refine c_ (h1:=?_) (h2:=?_)
     rotate_right 1
     focus
      intro c3
      first
      | exact dn c3
      | (
       have d3 := c3;try simp at d3
       refine wa_ (wc_region (w_ (f_ (h:=w_ (l_ (h:=w_ (ca (hc:=e_grouped _) (h:=w_ (a_ (h:=wo_nil (e_ (h:=aft_normal (?_)))))))))))))
       refine c_ (h1:=?_) (h2:=?_)
       rotate_right 1
       focus
        intro c4
        first
        | exact dn c4
        | (
         have d4 := c4;try simp at d4
         have h3 := (h1 (by omega)).1;have h4 := (h1 (by omega)).2;have g1 := ints_ix h3 h4
         refine wc_skip (?_)
         )
       rotate_right 1
       focus
        intro c4
        first
        | exact dn c4
        | (
         have d4 := c4;try simp at d4
         refine wa_ (wc_region (w_ (f_ (h:=w_ (l_ (h:=w_ (b_ (h:=w_ (a_ (h:=wo_nil (e_ (h:=aft_normal (wc_ret (?_))))))))))))))
         )
       )
     rotate_right 1
     focus
      intro c3
      first
      | exact dn c3
      | (
       have d3 := c3;try simp at d3
       obtain ⟨h3,h4⟩ := h1 (by omega);obtain ⟨h5,h6⟩ := h2 (by omega);have g1 := ints_ix h3 h4;have g2 := ints_ix h5 h6
       refine wa_ (wc_draw (y_ (m_ (h:=ax_ (h:=y_ (f_ (h:=ax_ (h:=y_ (l_ (h:=ax_ (h:=y_ (x_ (h:=ax_ (h:=y_ (l_ (h:=ax_ (h:=y_ (m_ (h:=ax_ (h:=y_ (f_ (h:=ax_ (h:=y_ (l_ (h:=ax_ (h:=y_ (x_ (h:=ax_ (h:=y_ (l_ (h:=ax_ (h:=?_))))))))))))))))))))))))))))))))
       refine y_ (b_ (h:=ax_ (h:=y_ (f_ (h:=ax_ (h:=y_ (l_ (h:=ax_ (h:=y_ (b_ (h:=ax_ (h:=y_ (a_ (h:=ax_ (h:=wo_nil (ed (h:=aft_normal (wc_ret (?_)))))))))))))))))))
       )
     )
   rotate_right 1
   focus
    intro c2
    first
    | exact dn c2
    | (
     have d2 := c2;try simp at d2
     refine wa_ (wc_region (w_ (f_ (h:=w_ (l_ (h:=w_ (ca (hc:=e_size 0 (ints d.cells) (by simp;omega)) (h:=w_ (a_ (h:=wo_nil (e_ (h:=aft_normal (wc_ret (?_))))))))))))))
     )
   )
 rotate_right 1
 focus
  intro c1
  first
  | exact dn c1
  | (
   have d1 := c1;try simp at d1
   refine wa_ (wc_region (w_ (f_ (h:=w_ (l_ (h:=w_ (a_ (h:=wo_nil (e_ (h:=aft_normal (wc_ret (?_))))))))))))
   )
 all_goals first | refine blk_normal ?_ | refine blk_ret ?_
 all_goals first
 | refine aft_ret ?_
 | (
  refine aft_normal ?_
  refine wa_ (wc_region (w_ (m_ (h:=w_ (f_ (h:=w_ (l_ (h:=w_ (x_ (h:=w_ (l_ (h:=w_ (a_ (h:=wo_nil (e_ (h:=aft_normal (wc_ret (?_))))))))))))))))))
  )
 all_goals (refine fin_ (hr:=(res_tmp rfl res_nil)) (h:=?_);(focus (simp [widthN];grind [inI])))
def faultN (d : Nd) (w : List Int) : Int :=
  if d.op = 1 then (if inI d.col 1 3 then 0 else 3)
  else if d.op = 2 then (if inI d.col 0 (IntKind.i64.wrap (at0 w d.a - 1)) && (inI d.test 0 2 && inI d.value (-1000000000) 1000000000) then 0 else 3)
  else if d.op = 3 then (if inI d.cells.length 1 4 then (if d.cells.all fun c => inI c 0 (IntKind.i64.wrap (at0 w d.a - 1)) then 0 else 3) else 2)
  else if d.op = 4 then (if at0 w d.a = at0 w d.b then 0 else 1)
  else if d.op = 6 then (if inI d.col 1 (min (at0 w d.a) (at0 w d.b)) then (if 4 < widthN d w then 2 else 0) else 3)
  else if d.op = 7 then (if inI d.col 0 (min (at0 w d.a) 3) then 0 else 3)
  else if 8 ≤ d.op ∧ d.op ≤ 10 then (if inI d.col 0 (IntKind.i64.wrap (at0 w d.a - 1)) then 0 else 3)
  else 0
theorem l_cells (z z' : Nat) (d : Nd) (w : List Int) (hd : d.cells.length < 4000000) (h0 : 0 ≤ d.a) (h1 : d.a < w.length) : ∀ i : Nat,i ≤ d.cells.length → ∀ s,normE 2 (some [1,2,47,48,49]) s = ⟨[(1,.lst false z' (ints w)),(2,.ptr 2 0 []),(47,.lst false z (ints d.cells)),(48,.int .i64 d.cells.length),(49,.int .i64 i)],[(2,⟨true,false,7,[d.v false z],0⟩)],3⟩ →
 oc.loop 171 12 s = some (if ((d.cells.drop i).all fun c => inI c 0 (IntKind.i64.wrap (at0 w d.a - 1))) = true then (.exit 1,⟨[],[],2⟩) else (.ret,⟨[(4,.int .i64 3)],[],2⟩)) := by
 refine loop_ind (fun i => d.cells.length - i) _ (fun i => ⟨[(1,.lst false z' (ints w)),(2,.ptr 2 0 []),(47,.lst false z (ints d.cells)),(48,.int .i64 d.cells.length),(49,.int .i64 i)],[(2,⟨true,false,7,[d.v false z],0⟩)],3⟩) _ ?_
 intro i hi ih s hs
 refine loop_s cd171 rfl rfl hs ?_
 refine wa_ (wc_region (w_ (b_ (h:=wo_nil (e_ (h:=aft_normal (wa_ (?_))))))))
 refine c_ (h1:=?_) (h2:=?_)
 rotate_right 1
 focus
  intro c1
  simp at c1;have : i = d.cells.length := (by omega);subst this
  refine wc_exit (?_)
 rotate_right 1
 focus
  intro c1
  simp at c1;have hw := wrap_succ (i:=i) (by omega);obtain ⟨x,_,d1,g1⟩ := ints_cut c1;have g2 := ints_ix h0 h1
  refine wc_skip (?_)
 all_goals first
 | refine aft_exit ?_
 | (
  refine aft_normal ?_
  refine wa_ (wc_block (wa_ (wc_region (w_ (x_ (h:=w_ (l_ (h:=w_ (a_ (h:=wo_nil (e_ (h:=aft_normal (wa_ (wc_region (w_ (m_ (h:=?_)))))))))))))))))
  refine w_ (m_ (h:=w_ (f_ (h:=w_ (l_ (h:=w_ (x_ (h:=w_ (l_ (h:=w_ (b_ (h:=w_ (ca (hc:=e_in _ _ _) (h:=w_ (u_ (h:=wo_nil (e_ (h:=aft_normal (?_)))))))))))))))))))
  refine c_ (h1:=?_) (h2:=?_)
  rotate_right 1
  focus
   intro c2
   refine wc_skip (?_)
  rotate_right 1
  focus
   intro c2
   refine wa_ (wc_region (w_ (a_ (h:=wo_nil (e_ (h:=aft_normal (wc_ret (?_))))))))
  all_goals first | refine blk_normal ?_ | refine blk_ret ?_
  all_goals first
  | refine aft_ret ?_
  | (
   refine aft_normal ?_
   refine wc_region (w_ (b_ (h:=w_ (m_ (h:=wo_nil (e_ (h:=?_)))))))
   )
  )
 all_goals first
 | (refine (ih (i + 1) (by omega) ?_ _ ?_).trans ?_;(focus (first | omega | (simp;done) | (simp;omega)));(focus (simp [normE,hw];done));(focus (rw [d1];simp at c2 ⊢;grind)))
 | (apply end_leaf (ex:=Ext.ret) 2 (some [4]);(focus (simp [normE];rfl));(focus (rw [d1];simp at c2 ⊢;grind)))
 | (apply end_leaf (ex:=(Ext.exit 1)) 2 (some [4]);(focus (simp [normE];rfl));(focus (simp)))
theorem e_fault (z z' : Nat) (d : Nd) (w : List Int) (hd : d.cells.length < 4000000) (h : fitN d w.length) (ho : 1 ≤ d.op ∧ d.op ≤ 12) : oc.call 171 [d.v false z,.lst false z' (ints w)] = some (.int .i64 (faultN d w),[]) := by
 refine fun_s rfl cd171 rfl rfl rfl (by simp;rfl) (by simp;rfl) ?_
 obtain ⟨k1,k2⟩ := h
 refine wa_ (wc_region (w_ (bx (h:=w_ (a_ (h:=wo_nil (e_ (h:=aft_normal (wa_ (wa_ (wc_region (w_ (f_ (h:=w_ (l_ (h:=wo_nil (e_ (h:=?_))))))))))))))))))
 refine aft_normal (wc_block (wa_ (wc_region (w_ (bE (h:=w_ (a_ (h:=wo_nil (e_ (h:=aft_normal (?_)))))))))))
 refine c_ (h1:=?_) (h2:=?_)
 rotate_right 1
 focus
  intro c1
  first
  | exact dn c1
  | (
   have d1 := c1;try simp at d1
   refine wa_ (wc_region (w_ (bE (h:=w_ (a_ (h:=wo_nil (e_ (h:=aft_normal (?_)))))))))
   refine c_ (h1:=?_) (h2:=?_)
   rotate_right 1
   focus
    intro c2
    first
    | exact dn c2
    | (
     have d2 := c2;try simp at d2
     refine wa_ (wc_region (w_ (bE (h:=w_ (a_ (h:=wo_nil (e_ (h:=aft_normal (?_)))))))))
     refine c_ (h1:=?_) (h2:=?_)
     rotate_right 1
     focus
      intro c3
      first
      | exact dn c3
      | (
       have d3 := c3;try simp at d3
       refine wa_ (wc_region (w_ (bE (h:=w_ (a_ (h:=wo_nil (e_ (h:=aft_normal (?_)))))))))
       refine c_ (h1:=?_) (h2:=?_)
       rotate_right 1
       focus
        intro c4
        first
        | exact dn c4
        | (
         have d4 := c4;try simp at d4
         refine wa_ (wc_region (w_ (bE (h:=w_ (a_ (h:=wo_nil (e_ (h:=aft_normal (?_)))))))))
         refine c_ (h1:=?_) (h2:=?_)
         rotate_right 1
         focus
          intro c5
          first
          | exact dn c5
          | (
           have d5 := c5;try simp at d5
           refine wa_ (wc_region (w_ (bE (h:=w_ (a_ (h:=wo_nil (e_ (h:=aft_normal (?_)))))))))
           refine c_ (h1:=?_) (h2:=?_)
           rotate_right 1
           focus
            intro c6
            first
            | exact dn c6
            | (
             have d6 := c6;try simp at d6
             refine wa_ (wa_ (wc_region (w_ (bE (h:=w_ (a_ (h:=wo_nil (e_ (h:=aft_normal (?_))))))))))
             refine c_ (h1:=?_) (h2:=?_)
             rotate_right 1
             focus
              intro c7
              first
              | exact dn c7
              | (
               have d7 := c7;try simp at d7
               refine wa_ (wc_region (w_ (bE (h:=w_ (a_ (h:=wo_nil (e_ (h:=aft_normal (?_)))))))))
               refine c_ (h1:=?_) (h2:=?_)
               rotate_right 1
               focus
                intro c8
                first
                | exact dn c8
                | (
                 have d8 := c8;try simp at d8
                 refine wc_region (w_ (bE (h:=w_ (a_ (h:=wo_nil (e_ (h:=?_)))))))
                 )
               rotate_right 1
               focus
                intro c8
                first
                | exact dn c8
                | (
                 have d8 := c8;try simp at d8
                 refine wc_skip (?_)
                 )
               )
             rotate_right 1
             focus
              intro c7
              first
              | exact dn c7
              | (
               have d7 := c7;try simp at d7
               refine wc_skip (?_)
               )
             all_goals first
             | (
              refine aft_normal ?_
              refine c_ (h1:=?_) (h2:=?_)
              rotate_right 1
              focus
               intro c9
               first
               | exact dn c9
               | (
                have d9 := c9;try simp at d9
                refine wc_skip (?_)
                )
              rotate_right 1
              focus
               intro c9
               first
               | exact dn c9
               | (
                have d9 := c9;try simp at d9
                obtain ⟨h3,h4⟩ := k1 (by omega);have g1 := ints_ix h3 h4
                refine wa_ (wc_draw (y_ (f_ (h:=ax_ (h:=y_ (l_ (h:=ax_ (h:=y_ (m_ (h:=ax_ (h:=y_ (f_ (h:=ax_ (h:=y_ (l_ (h:=ax_ (h:=y_ (x_ (h:=ax_ (h:=y_ (l_ (h:=ax_ (h:=y_ (b_ (h:=ax_ (h:=y_ (ca (hc:=e_in _ _ _) (h:=ax_ (h:=y_ (u_ (h:=ax_ (h:=?_))))))))))))))))))))))))))))))))
                refine wo_nil (ed (h:=aft_normal (?_)))
                refine c_ (h1:=?_) (h2:=?_)
                rotate_right 1
                focus
                 intro c10
                 first
                 | exact dn c10
                 | (
                  have d10 := c10;try simp at d10
                  refine wc_skip (?_)
                  )
                rotate_right 1
                focus
                 intro c10
                 first
                 | exact dn c10
                 | (
                  have d10 := c10;try simp at d10
                  refine wa_ (wc_region (w_ (a_ (h:=wo_nil (e_ (h:=aft_normal (wc_ret (?_))))))))
                  )
                )
              )
             )
           rotate_right 1
           focus
            intro c6
            first
            | exact dn c6
            | (
             have d6 := c6;try simp at d6
             obtain ⟨h3,h4⟩ := k1 (by omega);have g1 := ints_ix h3 h4
             refine wa_ (wc_draw (y_ (f_ (h:=ax_ (h:=y_ (l_ (h:=ax_ (h:=y_ (m_ (h:=ax_ (h:=y_ (f_ (h:=ax_ (h:=y_ (l_ (h:=ax_ (h:=y_ (x_ (h:=ax_ (h:=y_ (l_ (h:=ax_ (h:=y_ (mi (h:=ax_ (h:=y_ (ca (hc:=e_in _ _ _) (h:=ax_ (h:=y_ (u_ (h:=ax_ (h:=?_))))))))))))))))))))))))))))))))
             refine wo_nil (ed (h:=aft_normal (?_)))
             refine c_ (h1:=?_) (h2:=?_)
             rotate_right 1
             focus
              intro c11
              first
              | exact dn c11
              | (
               have d11 := c11;try simp at d11
               refine wc_skip (?_)
               )
             rotate_right 1
             focus
              intro c11
              first
              | exact dn c11
              | (
               have d11 := c11;try simp at d11
               refine wa_ (wc_region (w_ (a_ (h:=wo_nil (e_ (h:=aft_normal (wc_ret (?_))))))))
               )
             )
           )
         rotate_right 1
         focus
          intro c5
          first
          | exact dn c5
          | (
           have d5 := c5;try simp at d5
           obtain ⟨h3,h4⟩ := k1 (by omega);have g1 := ints_ix h3 h4;obtain ⟨h5,h6⟩ := k2 (by omega);have g2 := ints_ix h5 h6
           refine wa_ (wa_ (wc_draw (y_ (f_ (h:=ax_ (h:=y_ (l_ (h:=ax_ (h:=y_ (m_ (h:=ax_ (h:=y_ (f_ (h:=ax_ (h:=y_ (l_ (h:=ax_ (h:=y_ (x_ (h:=ax_ (h:=y_ (l_ (h:=ax_ (h:=y_ (m_ (h:=ax_ (h:=y_ (f_ (h:=ax_ (h:=?_))))))))))))))))))))))))))))))
           refine y_ (l_ (h:=ax_ (h:=y_ (x_ (h:=ax_ (h:=y_ (l_ (h:=ax_ (h:=y_ (mi (h:=ax_ (h:=y_ (ca (hc:=e_in _ _ _) (h:=ax_ (h:=y_ (u_ (h:=ax_ (h:=wo_nil (ed (h:=aft_normal (?_)))))))))))))))))))))
           refine c_ (h1:=?_) (h2:=?_)
           rotate_right 1
           focus
            intro c12
            first
            | exact dn c12
            | (
             have d12 := c12;try simp at d12
             refine wc_skip (?_)
             )
           rotate_right 1
           focus
            intro c12
            first
            | exact dn c12
            | (
             have d12 := c12;try simp at d12
             refine wa_ (wc_region (w_ (a_ (h:=wo_nil (e_ (h:=aft_normal (wc_ret (?_))))))))
             )
           all_goals first
           | refine aft_ret ?_
           | (
            refine aft_normal ?_
            refine wa_ (wc_region (w_ (l_ (h:=w_ (m_ (h:=w_ (ca (hc:=e_width 0 0 d w hd ⟨k1,k2⟩) (h:=w_ (b_ (h:=wo_nil (e_ (h:=aft_normal (?_)))))))))))))
            refine c_ (h1:=?_) (h2:=?_)
            rotate_right 1
            focus
             intro c13
             first
             | exact dn c13
             | (
              have d13 := c13;try simp at d13
              refine wc_skip (?_)
              )
            rotate_right 1
            focus
             intro c13
             first
             | exact dn c13
             | (
              have d13 := c13;try simp at d13
              refine wa_ (wc_region (w_ (a_ (h:=wo_nil (e_ (h:=aft_normal (wc_ret (?_))))))))
              )
            )
           )
         )
       rotate_right 1
       focus
        intro c4
        first
        | exact dn c4
        | (
         have d4 := c4;try simp at d4
         obtain ⟨h3,h4⟩ := k1 (by omega);have g1 := ints_ix h3 h4;obtain ⟨h5,h6⟩ := k2 (by omega);have g2 := ints_ix h5 h6
         refine wa_ (wc_draw (y_ (m_ (h:=ax_ (h:=y_ (f_ (h:=ax_ (h:=y_ (l_ (h:=ax_ (h:=y_ (x_ (h:=ax_ (h:=y_ (l_ (h:=ax_ (h:=y_ (m_ (h:=ax_ (h:=y_ (f_ (h:=ax_ (h:=y_ (l_ (h:=ax_ (h:=y_ (x_ (h:=ax_ (h:=y_ (l_ (h:=ax_ (h:=?_))))))))))))))))))))))))))))))))
         refine y_ (bE (h:=ax_ (h:=wo_nil (ed (h:=aft_normal (?_))))))
         refine c_ (h1:=?_) (h2:=?_)
         rotate_right 1
         focus
          intro c14
          first
          | exact dn c14
          | (
           have d14 := c14;try simp at d14
           refine wc_skip (?_)
           )
         rotate_right 1
         focus
          intro c14
          first
          | exact dn c14
          | (
           have d14 := c14;try simp at d14
           refine wa_ (wc_region (w_ (a_ (h:=wo_nil (e_ (h:=aft_normal (wc_ret (?_))))))))
           )
         )
       )
     rotate_right 1
     focus
      intro c3
      first
      | exact dn c3
      | (
       have d3 := c3;try simp at d3
       obtain ⟨h3,h4⟩ := k1 (by omega);have g1 := ints_ix h3 h4
       refine wa_ (wa_ (wc_region (w_ (f_ (h:=w_ (l_ (h:=w_ (ca (hc:=e_size 0 (ints d.cells) (by simp;omega)) (h:=w_ (ca (hc:=e_in _ _ _) (h:=w_ (u_ (h:=wo_nil (e_ (h:=aft_normal (?_))))))))))))))))
       refine c_ (h1:=?_) (h2:=?_)
       rotate_right 1
       focus
        intro c15
        first
        | exact dn c15
        | (
         have d15 := c15;try simp at d15
         refine wc_skip (?_)
         )
       rotate_right 1
       focus
        intro c15
        first
        | exact dn c15
        | (
         have d15 := c15;try simp at d15
         refine wa_ (wc_region (w_ (a_ (h:=wo_nil (e_ (h:=aft_normal (wc_ret (?_))))))))
         )
       all_goals first
       | refine aft_ret ?_
       | (
        refine aft_normal ?_
        refine wa_ (wc_region (w_ (f_ (h:=w_ (l_ (h:=w_ (le (h:=w_ (m_ (h:=wo_nil (e_ (h:=aft_normal (wc_block (?_))))))))))))))
        refine wc_loopI (l_cells z z' d w hd h3 h4 0 (by omega) _ (by simp [normE])) ?_ ?_
        rotate_right 1
        focus
         intro c16
         first
         | exact dn c16
         | (
          have d16 := c16;try simp at d16
          skip
          )
        rotate_right 1
        focus
         intro c16
         first
         | exact dn c16
         | (
          have d16 := c16;try simp at d16
          skip
          )
        all_goals first | refine blk_ret ?_ | refine blk_exit ?_
        )
       )
     )
   rotate_right 1
   focus
    intro c2
    first
    | exact dn c2
    | (
     have d2 := c2;try simp at d2
     obtain ⟨h3,h4⟩ := k1 (by omega);have g1 := ints_ix h3 h4
     refine wa_ (wc_draw (y_ (f_ (h:=ax_ (h:=y_ (l_ (h:=ax_ (h:=y_ (m_ (h:=ax_ (h:=y_ (f_ (h:=ax_ (h:=y_ (l_ (h:=ax_ (h:=y_ (x_ (h:=ax_ (h:=y_ (l_ (h:=ax_ (h:=y_ (b_ (h:=ax_ (h:=y_ (ca (hc:=e_in _ _ _) (h:=ax_ (h:=y_ (u_ (h:=ax_ (h:=?_))))))))))))))))))))))))))))))))
     refine y_ (m_ (h:=ax_ (h:=?_)))
     refine gw_ (h1:=?_) (h2:=?_)
     rotate_right 1
     focus
      intro c17
      first
      | exact dn c17
      | (
       have d17 := c17;try simp at d17
       refine gd_ (h:=gd_ (h:=gd_ (h:=gd_ (h:=?_))))
       )
     rotate_right 1
     focus
      intro c17
      first
      | exact dn c17
      | (
       have d17 := c17;try simp at d17
       refine g_ (h:=y_ (f_ (h:=ax_ (h:=g_ (h:=y_ (l_ (h:=ax_ (h:=g_ (h:=y_ (ca (hc:=e_in _ _ _) (h:=ax_ (h:=g_ (h:=y_ (u_ (h:=ax_ (h:=?_))))))))))))))))
       )
     all_goals
      refine y_ (pk (h:=ax_ (h:=y_ (m_ (h:=ax_ (h:=?_))))))
      refine gw_ (h1:=?_) (h2:=?_)
      rotate_right 1
      focus
       intro c18
       first
       | exact dn c18
       | (
        have d18 := c18;try simp at d18
        refine gd_ (h:=gd_ (h:=gd_ (h:=gd_ (h:=?_))))
        )
      rotate_right 1
      focus
       intro c18
       first
       | exact dn c18
       | (
        have d18 := c18;try simp at d18
        refine g_ (h:=y_ (f_ (h:=ax_ (h:=g_ (h:=y_ (l_ (h:=ax_ (h:=g_ (h:=y_ (ca (hc:=e_in _ _ _) (h:=ax_ (h:=g_ (h:=y_ (u_ (h:=ax_ (h:=?_))))))))))))))))
        )
      all_goals
       refine y_ (pk (h:=ax_ (h:=wo_nil (ed (h:=?_)))))
     all_goals first
     | (
      refine aft_normal ?_
      refine c_ (h1:=?_) (h2:=?_)
      rotate_right 1
      focus
       intro c19
       first
       | exact dn c19
       | (
        have d19 := c19;try simp at d19
        refine wc_skip (?_)
        )
      rotate_right 1
      focus
       intro c19
       first
       | exact dn c19
       | (
        have d19 := c19;try simp at d19
        refine wa_ (wc_region (w_ (a_ (h:=wo_nil (e_ (h:=aft_normal (wc_ret (?_))))))))
        )
      )
     )
   )
 rotate_right 1
 focus
  intro c1
  first
  | exact dn c1
  | (
   have d1 := c1;try simp at d1
   refine wa_ (wc_region (w_ (f_ (h:=w_ (l_ (h:=w_ (ca (hc:=e_in _ _ _) (h:=w_ (u_ (h:=wo_nil (e_ (h:=aft_normal (?_)))))))))))))
   refine c_ (h1:=?_) (h2:=?_)
   rotate_right 1
   focus
    intro c20
    first
    | exact dn c20
    | (
     have d20 := c20;try simp at d20
     refine wc_skip (?_)
     )
   rotate_right 1
   focus
    intro c20
    first
    | exact dn c20
    | (
     have d20 := c20;try simp at d20
     refine wa_ (wc_region (w_ (a_ (h:=wo_nil (e_ (h:=aft_normal (wc_ret (?_))))))))
     )
   )
 all_goals first | refine blk_normal ?_ | refine blk_ret ?_
 all_goals first
 | refine aft_ret ?_
 | (
  refine aft_normal ?_
  refine wa_ (wc_region (w_ (a_ (h:=wo_nil (e_ (h:=aft_normal (wc_ret (?_))))))))
  )
 all_goals (refine fin_ (hr:=(res_tmp rfl res_nil)) (h:=?_);(focus (simp [faultN];grind)))
def opAt (l : List Nd) (a : Int) : Int := (l[a.toNat]?).elim 0 Nd.op
theorem nds_ix {t : Bool} {s : Nat} {l : List Nd} {a : Int} (h0 : 0 ≤ a) (h : a < l.length) : ∃ d,(nds t s l)[a.toNat]? = some (Nd.v t s d) ∧ opAt l a = Nd.op d := by
  have : a.toNat < l.length := by omega
  exact ⟨l[a.toNat],by simp [nds,this],by simp [opAt,this]⟩
def okR (pl : List Nd) (i : Nat) (k : Int) : Bool := inI k 0 (IntKind.i64.wrap ((i : Int) - 1)) && !decide (opAt pl k = 12)
theorem l_reads (pl : List Nd) (out rs : List Int) (d : Nd) (i : Nat) (hp : pl.length < 2000000) (hi : i ≤ pl.length) (hr : rs.length < 10) : ∀ j : Nat,j ≤ rs.length → ∀ s,normE 1 (some [0,4,5,6,15,16,17,34,35,36]) s = ⟨[(0,.lst false 0 (nds false 0 pl)),(4,.ref 1 0 out.length),(5,.int .i64 i),(6,.ptr 2 0 []),(15,.lst false 0 (nds false 0 pl)),(16,.int .i64 pl.length),(17,.int .i64 i),(34,.ref 3 0 rs.length),(35,.int .i64 rs.length),(36,.int .i64 j)],[(1,⟨false,false,1,ints out,0⟩),(2,⟨true,false,7,[d.v false 0],0⟩),(3,⟨false,false,1,ints rs,0⟩)],4⟩ →
 oc.loop 90 12 s = some (if (rs.drop j).all (okR pl i) = true then (.exit 3,⟨[(0,.lst false 0 (nds false 0 pl)),(4,.ref 1 0 out.length),(6,.ptr 2 0 []),(15,.lst false 0 (nds false 0 pl)),(16,.int .i64 pl.length),(17,.int .i64 i)],[(1,⟨false,false,1,ints out,0⟩),(2,⟨true,false,7,[d.v false 0],0⟩)],3⟩)
  else (.ret,⟨[(0,.lst false 0 (nds false 0 pl)),(2,.lst true 1 []),(3,.int .i64 3),(4,.ref 1 0 out.length),(6,.ptr 2 0 []),(15,.lst false 0 (nds false 0 pl)),(16,.int .i64 pl.length),(17,.int .i64 i)],[(1,⟨false,false,1,ints out,0⟩),(2,⟨true,false,7,[d.v false 0],0⟩)],3⟩)) := by
 refine loop_ind (fun j => rs.length - j) _ (fun j => ⟨[(0,.lst false 0 (nds false 0 pl)),(4,.ref 1 0 out.length),(5,.int .i64 i),(6,.ptr 2 0 []),(15,.lst false 0 (nds false 0 pl)),(16,.int .i64 pl.length),(17,.int .i64 i),(34,.ref 3 0 rs.length),(35,.int .i64 rs.length),(36,.int .i64 j)],[(1,⟨false,false,1,ints out,0⟩),(2,⟨true,false,7,[d.v false 0],0⟩),(3,⟨false,false,1,ints rs,0⟩)],4⟩) _ ?_
 intro j hj ih s hs
 have hw2 : IntKind.i64.wrap ((i : Int) - 1) = i - 1 := wrap_id (by omega) (by omega)
 refine loop_s cd90 rfl rfl hs ?_
 refine wa_ (wc_region (w_ (b_ (h:=wo_nil (e_ (h:=aft_normal (wa_ (?_))))))))
 refine c_ (h1:=?_) (h2:=?_)
 rotate_right 1
 focus
  intro c1
  first
  | exact dn c1
  | (
   have d1 := c1;try simp at d1
   have : j = rs.length := (by omega);subst this
   refine wc_exit (?_)
   )
 rotate_right 1
 focus
  intro c1
  first
  | exact dn c1
  | (
   have d1 := c1;try simp at d1
   have hw := wrap_succ (i:=j) (by omega);obtain ⟨x,_,e1,g1⟩ := ints_cut (l:=rs) (i:=j) (by omega);simp at g1
   refine wc_skip (?_)
   )
 all_goals first
 | refine aft_exit ?_
 | (
  refine aft_normal ?_
  refine wa_ (wc_block (wa_ (wc_region (w_ (x_ (h:=w_ (l_ (h:=w_ (a_ (h:=wo_nil (e_ (h:=aft_normal (wa_ (wc_region (w_ (m_ (h:=?_)))))))))))))))))
  refine w_ (m_ (h:=w_ (b_ (h:=w_ (ca (hc:=e_in _ _ _) (h:=w_ (u_ (h:=w_ (m_ (h:=?_))))))))))
  refine gw_ (h1:=?_) (h2:=?_)
  rotate_right 1
  focus
   intro c2
   first
   | exact dn c2
   | (
    have d2 := c2;try simp at d2
    refine go_ (h:=go_ (h:=go_ (h:=go_ (h:=go_ (h:=go_ (h:=?_))))))
    )
  rotate_right 1
  focus
   intro c2
   first
   | exact dn c2
   | (
    have d2 := c2;try simp at d2
    simp [inI,hw2] at d2;obtain ⟨h3,h4⟩ := d2;obtain ⟨e,g2,g3⟩ := nds_ix (t:=false) (s:=0) (l:=pl) h3 (by omega)
    refine g_ (h:=w_ (m_ (h:=g_ (h:=w_ (m_ (h:=g_ (h:=w_ (x_ (h:=g_ (h:=w_ (f_ (h:=g_ (h:=w_ (l_ (h:=g_ (h:=w_ (bE (h:=?_))))))))))))))))))
    )
  all_goals
   refine w_ (pk (h:=wo_nil (e_ (h:=?_))))
  all_goals first
  | (
   refine aft_normal ?_
   refine c_ (h1:=?_) (h2:=?_)
   rotate_right 1
   focus
    intro c3
    first
    | exact dn c3
    | (
     have d3 := c3;try simp at d3
     refine wc_skip (?_)
     )
   rotate_right 1
   focus
    intro c3
    first
    | exact dn c3
    | (
     have d3 := c3;try simp at d3
     refine wa_ (wc_region (w_ (aN (h:=w_ (a_ (h:=wo_nil (e_ (h:=aft_normal (wc_ret (?_))))))))))
     )
   )
  all_goals first | refine blk_normal ?_ | refine blk_ret ?_
  all_goals first
  | refine aft_ret ?_
  | (
   refine aft_normal ?_
   refine wc_region (w_ (b_ (h:=w_ (m_ (h:=wo_nil (e_ (h:=?_)))))))
   )
  )
 all_goals first
 | (refine (ih (j + 1) (by omega) ?_ _ ?_).trans ?_;(focus (first | omega | (simp;done) | (simp;omega)));(focus (simp [normE,hw];done));(focus (rw [e1];simp [okR] at *;grind)))
 | (apply end_leaf (ex:=Ext.ret) 1 (some [0,2,3,4,6,15,16,17]);(focus (simp [normE];rfl));(focus (rw [e1];simp [okR] at *;grind)))
 | (apply end_leaf (ex:=(Ext.exit 3)) 1 (some [0,2,3,4,6,15,16,17]);(focus (simp [normE];rfl));(focus (simp)))
theorem fit_of {pl : List Nd} {d : Nd} {i : Nat} (hi : i < 2000000) (h : (readsN d).all (okR pl i) = true) : fitN d i := by
  have hw2 : IntKind.i64.wrap ((i : Int) - 1) = i - 1 := wrap_id (by omega) (by omega)
  have key : ∀ k ∈ readsN d,0 ≤ k ∧ k < i := by
    intro k hk
    have := List.all_eq_true.mp h k hk
    simp [okR,inI,hw2] at this
    omega
  unfold readsN at key
  constructor
  · intro h1
    rw [if_neg h1] at key
    split at key <;> exact key _ (by simp)
  · intro h1
    rw [if_neg (by omega),if_pos h1] at key
    exact key _ (by simp)
theorem plain_len (d : Nd) : (plainN d).cells.length ≤ d.cells.length := by
  simp only [plainN]
  split <;> simp
def stepC (pl : List Nd) (d : Nd) (out : List Int) : Int :=
  if inI d.op 1 12 = false then 5 else if d ≠ plainN d then 1 else if (readsN d).all (okR pl out.length) = false then 3 else faultN d out
def lookR (pl : List Nd) : List Nd → List Int → List Int × Int
  | [],out => (out,0)
  | d :: r,out => if stepC pl d out = 0 then lookR pl r (out ++ [widthN d out]) else (out,stepC pl d out)
def lookE (q : List Int × Int) : Ext × St :=
  if q.2 = 0 then (.exit 0,⟨[(4,.ref 1 0 q.1.length)],[(1,⟨false,false,1,ints q.1,0⟩)],2⟩) else (.ret,⟨[(2,.lst true 1 []),(3,.int .i64 q.2),(4,.ref 1 0 q.1.length)],[(1,⟨false,false,1,ints q.1,0⟩)],2⟩)
theorem look_stop {pl r : List Nd} {d : Nd} {out : List Int} {i : Nat} {c : Int} (e : pl.drop i = d :: r) (h : stepC pl d out = c) (hc : c ≠ 0) : lookE (lookR pl (pl.drop i) out) = (.ret,⟨[(2,.lst true 1 []),(3,.int .i64 c),(4,.ref 1 0 out.length)],[(1,⟨false,false,1,ints out,0⟩)],2⟩) := by
  subst h
  rw [e,lookR,if_neg hc,lookE,if_neg hc]
theorem look_go {pl r : List Nd} {d : Nd} {out : List Int} {i : Nat} (e : pl.drop i = d :: r) (h : stepC pl d out = 0) : lookR pl (pl.drop i) out = lookR pl r (out ++ [widthN d out]) := by
  rw [e,lookR,if_pos h]
theorem l_look (pl : List Nd) (hp : pl.length < 2000000) (hk : okN pl) : ∀ out : List Int,out.length ≤ pl.length → ∀ s,normE 1 (some [0,4,15,16,17]) s = ⟨[(0,.lst false 0 (nds false 0 pl)),(4,.ref 1 0 out.length),(15,.lst false 0 (nds false 0 pl)),(16,.int .i64 pl.length),(17,.int .i64 out.length)],[(1,⟨false,false,1,ints out,0⟩)],2⟩ →
 oc.loop 90 5 s = some (lookE (lookR pl (pl.drop out.length) out)) := by
 refine loop_ind (fun out => pl.length - out.length) _ (fun out => ⟨[(0,.lst false 0 (nds false 0 pl)),(4,.ref 1 0 out.length),(15,.lst false 0 (nds false 0 pl)),(16,.int .i64 pl.length),(17,.int .i64 out.length)],[(1,⟨false,false,1,ints out,0⟩)],2⟩) _ ?_
 intro out hi ih s hs
 refine loop_s cd90 rfl rfl hs ?_
 refine wa_ (wc_region (w_ (b_ (h:=wo_nil (e_ (h:=aft_normal (wa_ (?_))))))))
 refine c_ (h1:=?_) (h2:=?_)
 rotate_right 1
 focus
  intro c1
  first
  | exact dn c1
  | (
   have d1 := c1;try simp at d1
   have hn : pl.length = out.length := (by omega)
   refine wc_exit (?_)
   )
 rotate_right 1
 focus
  intro c1
  first
  | exact dn c1
  | (
   have d1 := c1;try simp at d1
   have hw := wrap_succ (i:=out.length) (by omega);obtain ⟨d,hx,e1,g1⟩ := nds_cut (t:=false) (s:=0) (l:=pl) (i:=out.length) (by omega);simp at g1;have hd := hk d (List.mem_of_getElem? hx);by_cases h3 : d.op = 3
   all_goals
    refine wc_skip (?_)
   )
 all_goals first
 | refine aft_exit ?_
 | (
  refine aft_normal ?_
  refine wa_ (wc_block (wa_ (wc_region (w_ (m_ (h:=w_ (x_ (h:=w_ (l_ (h:=w_ (al (h:=w_ (a_ (h:=w0 (s_ (h:=wo_nil (e_ (h:=aft_normal (?_)))))))))))))))))))
  refine wa_ (wc_block (wa_ (wc_region (w_ (f_ (h:=w_ (l_ (h:=w_ (ca (hc:=e_in _ _ _) (h:=w_ (u_ (h:=w_ (a_ (h:=wo_nil (e_ (h:=aft_normal (?_)))))))))))))))))
  refine c_ (h1:=?_) (h2:=?_)
  rotate_right 1
  focus
   intro c2
   first
   | exact dn c2
   | (
    have d2 := c2;try simp at d2
    refine wa_ (wc_draw (y_ (l_ (h:=ax_ (h:=y_ (l_ (h:=ax_ (h:=?_))))))))
    first | refine y_ (ca (hc:=e_plain3 0 d h3) (h:=?_)) | refine y_ (ca (hc:=e_plain 0 d h3) (h:=?_))
    refine ax_ (h:=y_ (ca (hc:=e_same 0 0 d (plainN d) (by omega) (by have := plain_len d;omega)) (h:=ax_ (h:=y_ (u_ (h:=ax_ (h:=y_ (a_ (h:=ax_ (h:=wo_nil (ed (h:=aft_normal (?_)))))))))))))
    refine c_ (h1:=?_) (h2:=?_)
    rotate_right 1
    focus
     intro c3
     first
     | exact dn c3
     | (
      have d3 := c3;try simp at d3
      refine wc_skip (?_)
      )
    rotate_right 1
    focus
     intro c3
     first
     | exact dn c3
     | (
      have d3 := c3;try simp at d3
      refine wa_ (wc_region (w_ (aN (h:=w_ (a_ (h:=wo_nil (e_ (h:=aft_normal (wc_ret (?_))))))))))
      )
    )
  rotate_right 1
  focus
   intro c2
   first
   | exact dn c2
   | (
    have d2 := c2;try simp at d2
    refine wa_ (wc_region (w_ (aN (h:=w_ (a_ (h:=wo_nil (e_ (h:=aft_normal (wc_ret (?_))))))))))
    )
  all_goals first | refine blk_normal ?_ | refine blk_ret ?_
  all_goals first
  | refine aft_ret ?_
  | (
   refine aft_normal ?_
   refine wa_ (wa_ (wc_region (w_ (l_ (h:=w_ (ca (hc:=e_reads 0 d) (h:=w_ (le (h:=w_ (m_ (h:=wo_nil (e_ (h:=aft_normal (wc_block (?_)))))))))))))))
   refine wc_loopI (l_reads pl out (readsN d) d out.length (by omega) (by omega) (by unfold readsN;split;simp;split <;> simp) 0 (by omega) _ (by simp [normE])) ?_ ?_
   rotate_right 1
   focus
    intro c4
    first
    | exact dn c4
    | (
     have d4 := c4;try simp at d4
     have d4' : (readsN d).all (okR pl out.length) = false := (by simpa using c4)
     skip
     )
   rotate_right 1
   focus
    intro c4
    first
    | exact dn c4
    | (
     have d4 := c4;try simp at d4
     have d4' : (readsN d).all (okR pl out.length) = true := (by simpa using c4);have hf := fit_of (i:=out.length) (by omega) (by simpa using c4)
     skip
     )
   all_goals first | refine blk_ret ?_ | refine blk_exit ?_
   all_goals first
   | refine aft_ret ?_
   | (
    refine aft_normal ?_
    refine wa_ (wa_ (wc_region (w_ (l_ (h:=w_ (m_ (h:=w_ (ca (hc:=e_fault 0 0 d out (by omega) hf (by simp [inI] at d2;omega)) (h:=w_ (a_ (h:=wo_nil (e_ (h:=aft_normal (wa_ (wc_region (w_ (m_ (h:=?_))))))))))))))))))
    refine w_ (bE (h:=wo_nil (e_ (h:=aft_normal (?_)))))
    refine c_ (h1:=?_) (h2:=?_)
    rotate_right 1
    focus
     intro c5
     first
     | exact dn c5
     | (
      have d5 := c5;try simp at d5
      refine wc_skip (?_)
      )
    rotate_right 1
    focus
     intro c5
     first
     | exact dn c5
     | (
      have d5 := c5;try simp at d5
      refine wa_ (wc_region (w_ (m_ (h:=w_ (aN (h:=w_ (a_ (h:=wo_nil (e_ (h:=aft_normal (wc_ret (?_))))))))))))
      )
    all_goals first
    | refine aft_ret ?_
    | (
     refine aft_normal ?_
     refine wc_region (w_ (m_ (h:=w_ (l_ (h:=w_ (m_ (h:=w_ (ca (hc:=e_width 0 0 d out (by omega) hf) (h:=w_ (bs (h:=w_ (ap (h:=w_ (a_ (h:=wo_nil (e_ (h:=?_)))))))))))))))))
     )
    )
   )
  all_goals first | refine blk_normal ?_ | refine blk_ret ?_
  all_goals first
  | refine aft_ret ?_
  | (
   refine aft_normal ?_
   refine wc_region (w_ (b_ (h:=w_ (m_ (h:=wo_nil (e_ (h:=?_)))))))
   )
  )
 all_goals first
 | (refine (ih (out ++ [widthN d out]) (by simp;omega) ?_ _ ?_).trans ?_;(focus (first | omega | (simp;done) | (simp;omega)));(focus (simp [normE,hw];done));(focus (rw [look_go e1 (by grind [stepC])];simp)))
 | (apply end_leaf (ex:=Ext.ret) 1 (some [2,3,4]);(focus (simp [normE];rfl));(focus (exact (look_stop e1 (c:=5) (by grind [stepC]) (by decide)).symm)))
 | (apply end_leaf (ex:=Ext.ret) 1 (some [2,3,4]);(focus (simp [normE];rfl));(focus (exact (look_stop e1 (c:=1) (by grind [stepC]) (by decide)).symm)))
 | (apply end_leaf (ex:=Ext.ret) 1 (some [2,3,4]);(focus (simp [normE];rfl));(focus (exact (look_stop e1 (c:=3) (by grind [stepC]) (by decide)).symm)))
 | (apply end_leaf (ex:=Ext.ret) 1 (some [2,3,4]);(focus (simp [normE];rfl));(focus (exact (look_stop e1 (c:=faultN d out) (by grind [stepC]) (by omega)).symm)))
 | (apply end_leaf (ex:=(Ext.exit 0)) 1 (some [2,3,4]);(focus (simp [normE];rfl));(focus (rw [List.drop_eq_nil_of_le (by omega)];simp [lookR,lookE])))
def lookN (pl : List Nd) : List Int × Int :=
  if inI pl.length 1 8 = false then ([],2) else if (lookR pl pl []).2 = 0 then lookR pl pl [] else ([],(lookR pl pl []).2)
theorem e_looked (pl : List Nd) (hp : pl.length < 2000000) (hk : okN pl) : oc.call 90 [.lst false 0 (nds false 0 pl)] = some (.tup [.lst true 1 (ints (lookN pl).1),.int .i64 (lookN pl).2],[]) := by
 refine fun_s rfl cd90 rfl rfl rfl (by simp;rfl) (by simp;rfl) ?_
 refine wa_ (wc_region (w_ (aN (h:=w_ (a_ (h:=wo_nil (e_ (h:=aft_normal (wa_ (wa_ (wc_region (w_ (m_ (h:=w_ (ca (hc:=e_sizeN _ _ (by simp;omega)) (h:=w_ (ca (hc:=e_in _ _ _) (h:=?_))))))))))))))))))
 refine w_ (u_ (h:=wo_nil (e_ (h:=aft_normal (?_)))))
 refine c_ (h1:=?_) (h2:=?_)
 rotate_right 1
 focus
  intro c1
  refine wc_skip (?_)
 rotate_right 1
 focus
  intro c1
  refine wa_ (wc_region (w_ (aN (h:=w_ (a_ (h:=wo_nil (e_ (h:=aft_normal (wc_ret (?_))))))))))
 all_goals first
 | refine aft_ret ?_
 | (
  refine aft_normal ?_
  refine wa_ (wc_region (w_ (bs (h:=w_ (a_ (h:=wo_nil (e_ (h:=aft_normal (wa_ (wa_ (wc_region (w_ (m_ (h:=w_ (le (h:=w_ (m_ (h:=?_))))))))))))))))))
  refine wo_nil (e_ (h:=aft_normal (wc_block (?_))))
  refine wc_loopI ((l_look pl hp hk [] (by simp) _ (by simp [normE])).trans (by rw [lookE])) ?_ ?_
  rotate_right 1
  focus
   intro c2
   skip
  rotate_right 1
  focus
   intro c2
   skip
  all_goals first | refine blk_ret ?_ | refine blk_exit ?_
  all_goals first
  | refine aft_ret ?_
  | (
   refine aft_normal ?_
   refine wa_ (wc_region (w_ (m_ (h:=w_ (a_ (h:=w_ (a_ (h:=wo_nil (e_ (h:=aft_normal (wc_ret (?_))))))))))))
   )
  )
 all_goals (refine fin_ (hr:=(res_tmp rfl (res_tmp rfl res_nil))) (h:=?_);(focus (simp_all [lookN])))
theorem e_planI (pl : List Nd) (hp : pl.length < 2000000) (hk : okN pl) : oc.call 25 [.lst false 0 (nds false 0 pl)] = some (.int .i64 (lookN pl).2,[]) := by
 refine fun_s rfl cd25 rfl rfl rfl (by simp;rfl) (by simp;rfl) ?_
 refine wa_ (wc_region (w_ (a_ (h:=wo_nil (e_ (h:=aft_normal (wa_ (wc_region (w_ (m_ (h:=w_ (ca (hc:=e_looked pl hp hk) (h:=w_ (m_ (h:=w_ (ex (h:=w_ (ex (h:=?_)))))))))))))))))))
 refine w_ (a_ (h:=w_ (a_ (h:=wo_nil (e_ (h:=aft_normal (wa_ (wc_region (w_ (m_ (h:=w_ (a_ (h:=wo_nil (e_ (h:=aft_normal (wc_ret (?_)))))))))))))))))
 all_goals (refine fin_ (hr:=(res_tmp rfl res_nil)) (h:=?_);(focus (first | (simp_all;done) | (simp_all <;> omega) | (simp_all <;> split <;> simp_all <;> omega))))
end Go.Proofs.Ytgkbmiaimjpbfaa.Ev
namespace Go.Proofs.Ytgkbmiaimjpbfaa.Ev
open Go
set_option maxRecDepth 100000
set_option linter.unusedSimpArgs false
set_option linter.unusedVariables false
set_option maxHeartbeats 2000000
def Good (pl : List Nd) (ws : List Int) : Prop := ∀ n : Nat,n < ws.length → ∃ d,pl[n]? = some d ∧ at0 ws n = widthN d (ws.take n) ∧ fitN d n ∧ d.cells.length < 2000000
theorem at0_take {ws : List Int} {n : Nat} {a : Int} (h : a.toNat < n) : at0 (ws.take n) a = at0 ws a := by
  simp only [at0,List.getD_eq_getElem?_getD,List.getElem?_take,if_pos h]
theorem e_l3Width (pl : List Nd) (ws : List Int) (hp : pl.length < 2000000) (G : Good pl ws) : ∀ n : Nat,n < ws.length → oc.call 162 [.lst false 0 (nds false 0 pl),.int .i64 n] = some (.int .i64 (at0 ws n),[]) := by
  intro n
  induction n using Nat.strongRecOn with
  | ind n ih =>
    intro hn
    obtain ⟨d,hx,hv,⟨h1,h2⟩,hd⟩ := G n hn
    have hrec : ∀ a : Int,0 ≤ a → a < n → oc.call 162 [.lst false 0 (nds false 0 pl),.int .i64 a] = some (.int .i64 (at0 (ws.take n) a),[]) := by
      intro a h3 h4
      have := ih a.toNat (by omega) (by omega)
      rw [at0_take (by omega)]
      rw [Int.toNat_of_nonneg h3] at this
      exact this
    have g1 : (nds false 0 pl)[(n : Int).toNat]? = some (d.v false 0) := nds_get (by simpa using hx)
    rw [hv]
    refine fun_s rfl cd162 rfl rfl rfl (by simp;rfl) (by simp;rfl) ?_
    refine wa_ (wc_region (w_ (a_ (h:=wo_nil (e_ (h:=aft_normal (wa_ (wc_region (w_ (m_ (h:=w_ (m_ (h:=w_ (x_ (h:=w_ (l_ (h:=w_ (al (h:=?_)))))))))))))))))))
    refine w0 (s_ (h:=wo_nil (e_ (h:=aft_normal (wa_ (wa_ (wc_region (w_ (f_ (h:=w_ (l_ (h:=wo_nil (e_ (h:=aft_normal (wc_block (wa_ (?_)))))))))))))))))
    refine wc_region (w_ (bE (h:=w_ (a_ (h:=wo_nil (e_ (h:=aft_normal (?_))))))))
    refine c_ (h1:=?_) (h2:=?_)
    rotate_right 1
    focus
     intro c1
     first
     | exact dn c1
     | (have d1 := c1;try simp at d1
        refine wa_ (wc_region (w_ (bE (h:=w_ (a_ (h:=wo_nil (e_ (h:=aft_normal (?_)))))))))
        refine c_ (h1:=?_) (h2:=?_)
        rotate_right 1
        focus
         intro c2
         first
         | exact dn c2
         | (have d2 := c2;try simp at d2
            refine wa_ (wc_region (w_ (bE (h:=w_ (a_ (h:=wo_nil (e_ (h:=aft_normal (?_)))))))))
            refine c_ (h1:=?_) (h2:=?_)
            rotate_right 1
            focus
             intro c3
             first
             | exact dn c3
             | (have d3 := c3;try simp at d3
                refine wa_ (wa_ (wc_region (w_ (bE (h:=w_ (a_ (h:=wo_nil (e_ (h:=aft_normal (?_))))))))))
                refine c_ (h1:=?_) (h2:=?_)
                rotate_right 1
                focus
                 intro c4
                 first
                 | exact dn c4
                 | (have d4 := c4;try simp at d4
                    refine wa_ (wc_region (w_ (bE (h:=w_ (a_ (h:=wo_nil (e_ (h:=aft_normal (?_)))))))))
                    refine c_ (h1:=?_) (h2:=?_)
                    rotate_right 1
                    focus
                     intro c5
                     first
                     | exact dn c5
                     | (have d5 := c5;try simp at d5
                        refine wa_ (wc_region (w_ (bE (h:=w_ (a_ (h:=wo_nil (e_ (h:=aft_normal (?_)))))))))
                        refine c_ (h1:=?_) (h2:=?_)
                        rotate_right 1
                        focus
                         intro c6
                         first
                         | exact dn c6
                         | (have d6 := c6;try simp at d6
                            refine wc_region (w_ (bE (h:=w_ (a_ (h:=wo_nil (e_ (h:=?_)))))))
                            )
                        rotate_right 1
                        focus
                         intro c6
                         first
                         | exact dn c6
                         | (have d6 := c6;try simp at d6
                            refine wc_skip (?_)
                            )
                        )
                    rotate_right 1
                    focus
                     intro c5
                     first
                     | exact dn c5
                     | (have d5 := c5;try simp at d5
                        refine wc_skip (?_)
                        )
                    )
                rotate_right 1
                focus
                 intro c4
                 first
                 | exact dn c4
                 | (have d4 := c4;try simp at d4
                    refine wc_skip (?_)
                    )
                all_goals first
                | (refine aft_normal ?_
                   refine c_ (h1:=?_) (h2:=?_)
                   rotate_right 1
                   focus
                    intro c7
                    first
                    | exact dn c7
                    | (have d7 := c7;try simp at d7
                       obtain ⟨h3,h4⟩ := h1 (by omega)
                       refine wc_skip (?_)
                       )
                   rotate_right 1
                   focus
                    intro c7
                    first
                    | exact dn c7
                    | (have d7 := c7;try simp at d7
                       refine wa_ (wc_region (w_ (f_ (h:=w_ (l_ (h:=w_ (b_ (h:=w_ (a_ (h:=wo_nil (e_ (h:=aft_normal (wc_ret (?_))))))))))))))
                       )
                   )
                )
            rotate_right 1
            focus
             intro c3
             first
             | exact dn c3
             | (have d3 := c3;try simp at d3
                obtain ⟨h3,h4⟩ := h1 (by omega);obtain ⟨h5,h6⟩ := h2 (by omega)
                refine wa_ (wc_draw (y_ (m_ (h:=ax_ (h:=y_ (f_ (h:=ax_ (h:=y_ (l_ (h:=ax_ (h:=y_ (ca (hc:=hrec _ h3 h4) (h:=ax_ (h:=y_ (m_ (h:=ax_ (h:=y_ (f_ (h:=ax_ (h:=y_ (l_ (h:=ax_ (h:=y_ (ca (hc:=hrec _ h5 h6) (h:=ax_ (h:=y_ (b_ (h:=ax_ (h:=y_ (f_ (h:=ax_ (h:=?_))))))))))))))))))))))))))))))))
                refine y_ (l_ (h:=ax_ (h:=y_ (b_ (h:=ax_ (h:=y_ (a_ (h:=ax_ (h:=wo_nil (ed (h:=aft_normal (wc_ret (?_)))))))))))))
                )
            )
        rotate_right 1
        focus
         intro c2
         first
         | exact dn c2
         | (have d2 := c2;try simp at d2
            refine wa_ (wc_region (w_ (f_ (h:=w_ (l_ (h:=w_ (le (h:=w_ (a_ (h:=wo_nil (e_ (h:=aft_normal (wc_ret (?_))))))))))))))
            )
        )
    rotate_right 1
    focus
     intro c1
     first
     | exact dn c1
     | (have d1 := c1;try simp at d1
        refine wa_ (wc_region (w_ (f_ (h:=w_ (l_ (h:=w_ (a_ (h:=wo_nil (e_ (h:=aft_normal (wc_ret (?_))))))))))))
        )
    all_goals first | refine blk_normal ?_ | refine blk_ret ?_
    all_goals first
    | refine aft_ret ?_
    | (refine aft_normal ?_
       refine wa_ (wc_region (w_ (m_ (h:=w_ (f_ (h:=w_ (l_ (h:=w_ (ca (hc:=hrec _ h3 h4) (h:=w_ (a_ (h:=wo_nil (e_ (h:=aft_normal (wc_ret (?_))))))))))))))))
       )
    all_goals (refine fin_ (hr:=(res_tmp rfl res_nil)) (h:=?_);(focus (clear ih hrec hv G;simp [widthN];grind [inI])))
theorem e_l3Named (d : Nd) (hd : d.cells.length < 2000000) (ho : 1 ≤ d.op ∧ d.op ≤ 12) : oc.call 160 [d.v false 0] = some (.bool (decide (d = plainN d)),[]) := by
 refine fun_s rfl cd160 rfl rfl rfl (by simp;rfl) (by simp;rfl) ?_
 refine wa_ (wc_region (w_ (bx (h:=w_ (a_ (h:=wo_nil (e_ (h:=aft_normal (wa_ (wa_ (wc_region (w_ (f_ (h:=w_ (l_ (h:=w_ (ca (hc:=e_l3Reads _) (h:=?_))))))))))))))))))
 refine w_ (b_ (h:=w_ (m_ (h:=?_))))
 refine gw_ (h1:=?_) (h2:=?_)
 rotate_right 1
 focus
  intro c1
  first
  | exact dn c1
  | (
   have d1 := c1;try simp at d1
   refine go_ (h:=go_ (h:=go_ (h:=?_)))
   )
 rotate_right 1
 focus
  intro c1
  first
  | exact dn c1
  | (
   have d1 := c1;try simp at d1
   refine g_ (h:=w_ (f_ (h:=g_ (h:=w_ (l_ (h:=g_ (h:=w_ (bE (h:=?_)))))))))
   )
 all_goals
  refine w_ (pk (h:=w_ (m_ (h:=?_))))
  refine gw_ (h1:=?_) (h2:=?_)
  rotate_right 1
  focus
   intro c2
   first
   | exact dn c2
   | (
    have d2 := c2;try simp at d2
    refine go_ (h:=go_ (h:=go_ (h:=go_ (h:=go_ (h:=?_)))))
    )
  rotate_right 1
  focus
   intro c2
   first
   | exact dn c2
   | (
    have d2 := c2;try simp at d2
    refine g_ (h:=w_ (f_ (h:=g_ (h:=w_ (l_ (h:=g_ (h:=w_ (ca (hc:=e_l3Reads _) (h:=g_ (h:=w_ (b_ (h:=g_ (h:=w_ (m_ (h:=?_)))))))))))))))
    )
  all_goals
   first
   | (
    skip
    refine goN (h:=goN (h:=goN (h:=?_)))
    )
   | (
    refine gw_ (h1:=?_) (h2:=?_)
    rotate_right 1
    focus
     intro c3
     first
     | exact dn c3
     | (
      have d3 := c3;try simp at d3
      refine go_ (h:=go_ (h:=go_ (h:=?_)))
      )
    rotate_right 1
    focus
     intro c3
     first
     | exact dn c3
     | (
      have d3 := c3;try simp at d3
      refine g_ (h:=w_ (f_ (h:=g_ (h:=w_ (l_ (h:=g_ (h:=w_ (bE (h:=?_)))))))))
      )
    )
   all_goals
    first
    | (
     skip
     refine g_ (h:=w_ (pk (h:=?_)))
     )
    | (
     skip
     refine go_ (h:=?_)
     )
    all_goals
     refine w_ (pk (h:=wo_nil (e_ (h:=?_))))
 all_goals first
 | (
  refine aft_normal ?_
  refine c_ (h1:=?_) (h2:=?_)
  rotate_right 1
  focus
   intro c4
   first
   | exact dn c4
   | (
    have d4 := c4;try simp at d4
    refine wc_skip (?_)
    )
  rotate_right 1
  focus
   intro c4
   first
   | exact dn c4
   | (
    have d4 := c4;try simp at d4
    refine wa_ (wc_region (w_ (a_ (h:=wo_nil (e_ (h:=aft_normal (wc_ret (?_))))))))
    )
  )
 all_goals first
 | refine aft_ret ?_
 | (
  refine aft_normal ?_
  refine wa_ (wa_ (wc_region (w_ (f_ (h:=w_ (l_ (h:=w_ (bE (h:=w_ (m_ (h:=?_)))))))))))
  refine gw_ (h1:=?_) (h2:=?_)
  rotate_right 1
  focus
   intro c5
   first
   | exact dn c5
   | (
    have d5 := c5;try simp at d5
    refine go_ (h:=go_ (h:=go_ (h:=go_ (h:=?_))))
    )
  rotate_right 1
  focus
   intro c5
   first
   | exact dn c5
   | (
    have d5 := c5;try simp at d5
    refine g_ (h:=w_ (f_ (h:=g_ (h:=w_ (l_ (h:=g_ (h:=w_ (bE (h:=g_ (h:=w_ (m_ (h:=?_))))))))))))
    )
  all_goals
   first
   | (
    skip
    refine goN (h:=goN (h:=goN (h:=?_)))
    )
   | (
    refine gw_ (h1:=?_) (h2:=?_)
    rotate_right 1
    focus
     intro c6
     first
     | exact dn c6
     | (
      have d6 := c6;try simp at d6
      refine go_ (h:=go_ (h:=go_ (h:=?_)))
      )
    rotate_right 1
    focus
     intro c6
     first
     | exact dn c6
     | (
      have d6 := c6;try simp at d6
      refine g_ (h:=w_ (f_ (h:=g_ (h:=w_ (l_ (h:=g_ (h:=w_ (bE (h:=?_)))))))))
      )
    )
   all_goals
    first
    | (
     skip
     refine g_ (h:=w_ (pk (h:=?_)))
     )
    | (
     skip
     refine go_ (h:=?_)
     )
    all_goals
     refine w_ (pk (h:=w_ (m_ (h:=?_))))
     refine gw_ (h1:=?_) (h2:=?_)
     rotate_right 1
     focus
      intro c7
      first
      | exact dn c7
      | (
       have d7 := c7;try simp at d7
       refine go_ (h:=go_ (h:=go_ (h:=go_ (h:=?_))))
       )
     rotate_right 1
     focus
      intro c7
      first
      | exact dn c7
      | (
       have d7 := c7;try simp at d7
       refine g_ (h:=w_ (f_ (h:=g_ (h:=w_ (l_ (h:=g_ (h:=w_ (bE (h:=g_ (h:=w_ (m_ (h:=?_))))))))))))
       )
     all_goals
      first
      | (
       skip
       refine goN (h:=goN (h:=goN (h:=goN (h:=?_))))
       )
      | (
       refine gw_ (h1:=?_) (h2:=?_)
       rotate_right 1
       focus
        intro c8
        first
        | exact dn c8
        | (
         have d8 := c8;try simp at d8
         refine go_ (h:=go_ (h:=go_ (h:=go_ (h:=?_))))
         )
       rotate_right 1
       focus
        intro c8
        first
        | exact dn c8
        | (
         have d8 := c8;try simp at d8
         refine g_ (h:=w_ (f_ (h:=g_ (h:=w_ (l_ (h:=g_ (h:=w_ (le (h:=g_ (h:=w_ (b_ (h:=?_))))))))))))
         )
       )
      all_goals
       first
       | (
        skip
        refine g_ (h:=w_ (pk (h:=?_)))
        )
       | (
        skip
        refine go_ (h:=?_)
        )
       all_goals
        refine w_ (pk (h:=wo_nil (e_ (h:=?_))))
  all_goals first
  | (
   refine aft_normal ?_
   refine c_ (h1:=?_) (h2:=?_)
   rotate_right 1
   focus
    intro c9
    first
    | exact dn c9
    | (
     have d9 := c9;try simp at d9
     refine wc_skip (?_)
     )
   rotate_right 1
   focus
    intro c9
    first
    | exact dn c9
    | (
     have d9 := c9;try simp at d9
     refine wa_ (wc_region (w_ (a_ (h:=wo_nil (e_ (h:=aft_normal (wc_ret (?_))))))))
     )
   )
  all_goals first
  | refine aft_ret ?_
  | (
   refine aft_normal ?_
   refine wa_ (wa_ (wc_region (w_ (f_ (h:=w_ (l_ (h:=wo_nil (e_ (h:=aft_normal (wc_block (wa_ (wa_ (wc_region (w_ (bE (h:=?_))))))))))))))))
   refine w_ (a_ (h:=wo_nil (e_ (h:=aft_normal (?_)))))
   refine c_ (h1:=?_) (h2:=?_)
   rotate_right 1
   focus
    intro c10
    first
    | exact dn c10
    | (
     have d10 := c10;try simp at d10
     refine wa_ (wc_region (w_ (bE (h:=w_ (a_ (h:=wo_nil (e_ (h:=aft_normal (?_)))))))))
     refine c_ (h1:=?_) (h2:=?_)
     rotate_right 1
     focus
      intro c11
      first
      | exact dn c11
      | (
       have d11 := c11;try simp at d11
       refine wa_ (wc_region (w_ (bE (h:=w_ (a_ (h:=wo_nil (e_ (h:=aft_normal (?_)))))))))
       refine c_ (h1:=?_) (h2:=?_)
       rotate_right 1
       focus
        intro c12
        first
        | exact dn c12
        | (
         have d12 := c12;try simp at d12
         refine wa_ (wc_region (w_ (bE (h:=w_ (a_ (h:=wo_nil (e_ (h:=aft_normal (?_)))))))))
         refine c_ (h1:=?_) (h2:=?_)
         rotate_right 1
         focus
          intro c13
          first
          | exact dn c13
          | (
           have d13 := c13;try simp at d13
           refine wc_region (w_ (bE (h:=w_ (a_ (h:=wo_nil (e_ (h:=?_)))))))
           )
         rotate_right 1
         focus
          intro c13
          first
          | exact dn c13
          | (
           have d13 := c13;try simp at d13
           refine wc_skip (?_)
           )
         )
       rotate_right 1
       focus
        intro c12
        first
        | exact dn c12
        | (
         have d12 := c12;try simp at d12
         refine wc_skip (?_)
         )
       )
     rotate_right 1
     focus
      intro c11
      first
      | exact dn c11
      | (
       have d11 := c11;try simp at d11
       refine wc_skip (?_)
       )
     )
   rotate_right 1
   focus
    intro c10
    first
    | exact dn c10
    | (
     have d10 := c10;try simp at d10
     refine wc_skip (?_)
     )
   all_goals first
   | (
    refine aft_normal ?_
    refine c_ (h1:=?_) (h2:=?_)
    rotate_right 1
    focus
     intro c14
     first
     | exact dn c14
     | (
      have d14 := c14;try simp at d14
      refine wc_skip (?_)
      )
    rotate_right 1
    focus
     intro c14
     first
     | exact dn c14
     | (
      have d14 := c14;try simp at d14
      refine wa_ (wc_region (w_ (f_ (h:=w_ (l_ (h:=w_ (bE (h:=w_ (a_ (h:=wo_nil (e_ (h:=aft_normal (wc_ret (?_))))))))))))))
      )
    )
   all_goals first | refine blk_normal ?_ | refine blk_ret ?_
   all_goals first
   | refine aft_ret ?_
   | (
    refine aft_normal ?_
    refine wa_ (wc_region (w_ (a_ (h:=wo_nil (e_ (h:=aft_normal (wc_ret (?_))))))))
    )
   )
  )
 all_goals (refine fin_ (hr:=(res_tmp rfl res_nil)) (h:=?_);(focus (simp [Nd.eq_iff,plainN];grind)))
theorem reads_len (d : Nd) : ((readsN d).length : Int) = if d.op = 1 then 0 else if d.op = 4 ∨ d.op = 6 then 2 else 1 := by
  unfold readsN
  split
  · simp
  · split <;> simp
theorem reads_at {d : Nd} {k : Nat} (h : k < (readsN d).length) : (readsN d).drop k = (if k = 1 then d.b else d.a) :: (readsN d).drop (k + 1) := by
  rw [List.drop_eq_getElem_cons h]
  congr 1
  unfold readsN at h ⊢
  split at h
  · simp at h
  · split at h
    · simp at h
      rcases k with _ | _ | k
      · simp [*]
      · simp [*]
      · omega
    · simp at h
      subst h
      simp [*]
theorem l_readsS (pl : List Nd) (d : Nd) (i : Nat) (hp : pl.length < 2000000) (hi : i ≤ pl.length) : ∀ k : Nat,k ≤ (readsN d).length → ∀ s,normE 2 (some [0,1,5,6]) s = ⟨[(0,.lst false 0 (nds false 0 pl)),(1,.int .i64 i),(5,.ptr 2 0 []),(6,.int .i64 k)],[(2,⟨true,false,7,[d.v false 0],0⟩)],3⟩ →
 oc.loop 87 7 s = some (if ((readsN d).drop k).all (okR pl i) = true then (.exit 0,⟨[(0,.lst false 0 (nds false 0 pl)),(5,.ptr 2 0 [])],[(2,⟨true,false,7,[d.v false 0],0⟩)],3⟩)
  else (.ret,⟨[(0,.lst false 0 (nds false 0 pl)),(4,.int .i64 3),(5,.ptr 2 0 [])],[(2,⟨true,false,7,[d.v false 0],0⟩)],3⟩)) := by
 refine loop_ind (fun k => (readsN d).length - k) _ (fun k => ⟨[(0,.lst false 0 (nds false 0 pl)),(1,.int .i64 i),(5,.ptr 2 0 []),(6,.int .i64 k)],[(2,⟨true,false,7,[d.v false 0],0⟩)],3⟩) _ ?_
 intro k hk ih s hs
 have hw2 : IntKind.i64.wrap ((i : Int) - 1) = i - 1 := wrap_id (by omega) (by omega)
 have hlen := reads_len d
 have hle : (readsN d).length ≤ 2 := by unfold readsN;split;simp;split <;> simp
 have hw := wrap_succ (i:=k) (by omega)
 refine loop_s cd87 rfl rfl hs ?_
 refine wa_ (wa_ (wc_region (w_ (m_ (h:=w_ (f_ (h:=w_ (l_ (h:=w_ (ca (hc:=e_l3Reads _) (h:=w_ (b_ (h:=wo_nil (e_ (h:=aft_normal (?_))))))))))))))))
 refine c_ (h1:=?_) (h2:=?_)
 rotate_right 1
 focus
  intro c1
  first
  | exact dn c1
  | (
   have d1 := c1;try simp at d1
   rw [← hlen] at d1;have : k = (readsN d).length := (by omega)
   refine wc_exit (?_)
   )
 rotate_right 1
 focus
  intro c1
  first
  | exact dn c1
  | (
   have d1 := c1;try simp at d1
   rw [← hlen] at d1;have e1 := reads_at (d:=d) (k:=k) (by omega)
   refine wc_skip (?_)
   )
 all_goals first
 | refine aft_exit ?_
 | (
  refine aft_normal ?_
  refine wa_ (wc_block (wa_ (wc_region (w_ (f_ (h:=w_ (l_ (h:=w_ (a_ (h:=wo_nil (e_ (h:=aft_normal (wa_ (wa_ (wc_region (?_))))))))))))))))
  refine w_ (m_ (h:=w_ (bE (h:=wo_nil (e_ (h:=aft_normal (?_)))))))
  refine c_ (h1:=?_) (h2:=?_)
  rotate_right 1
  focus
   intro c2
   first
   | exact dn c2
   | (
    have d2 := c2;try simp at d2
    refine wc_skip (?_)
    )
  rotate_right 1
  focus
   intro c2
   first
   | exact dn c2
   | (
    have d2 := c2;try simp at d2
    refine wc_region (w_ (f_ (h:=w_ (l_ (h:=w_ (a_ (h:=wo_nil (e_ (h:=?_)))))))))
    )
  all_goals first
  | (
   refine aft_normal ?_
   refine wa_ (wc_region (w_ (m_ (h:=w_ (m_ (h:=w_ (b_ (h:=w_ (ca (hc:=e_l1In _ _ _) (h:=w_ (u_ (h:=w_ (m_ (h:=?_))))))))))))))
   refine gw_ (h1:=?_) (h2:=?_)
   rotate_right 1
   focus
    intro c3
    first
    | exact dn c3
    | (
     have d3 := c3;try simp at d3
     refine go_ (h:=go_ (h:=go_ (h:=go_ (h:=go_ (h:=go_ (h:=?_))))))
     )
   rotate_right 1
   focus
    intro c3
    first
    | exact dn c3
    | (
     have d3 := c3;try simp at d3
     simp [inI,hw2] at d3;obtain ⟨h3,h4⟩ := d3;obtain ⟨e,g2,g3⟩ := nds_ix (t:=false) (s:=0) (l:=pl) h3 (by omega)
     refine g_ (h:=w_ (m_ (h:=g_ (h:=w_ (m_ (h:=g_ (h:=w_ (x_ (h:=g_ (h:=w_ (f_ (h:=g_ (h:=w_ (l_ (h:=g_ (h:=w_ (bE (h:=?_))))))))))))))))))
     )
   all_goals
    refine w_ (pk (h:=wo_nil (e_ (h:=?_))))
   all_goals first
   | (
    refine aft_normal ?_
    refine c_ (h1:=?_) (h2:=?_)
    rotate_right 1
    focus
     intro c4
     first
     | exact dn c4
     | (
      have d4 := c4;try simp at d4
      refine wc_skip (?_)
      )
    rotate_right 1
    focus
     intro c4
     first
     | exact dn c4
     | (
      have d4 := c4;try simp at d4
      refine wa_ (wc_region (w_ (a_ (h:=wo_nil (e_ (h:=aft_normal (wc_ret (?_))))))))
      )
    )
   )
  all_goals first | refine blk_normal ?_ | refine blk_ret ?_
  all_goals first
  | refine aft_ret ?_
  | (
   refine aft_normal ?_
   refine wc_region (w_ (m_ (h:=w_ (b_ (h:=w_ (a_ (h:=wo_nil (e_ (h:=?_)))))))))
   )
  )
 all_goals first
 | (refine (ih (k + 1) (by omega) ?_ _ ?_).trans ?_;(focus (first | omega | (simp;done) | (simp;omega)));(focus (simp [normE,hw];done));(focus (rw [e1];simp [okR] at *;grind)))
 | (apply end_leaf (ex:=Ext.ret) 2 (some [0,4,5]);(focus (simp [normE];rfl));(focus (rw [e1];simp [okR] at *;grind)))
 | (apply end_leaf (ex:=(Ext.exit 0)) 2 (some [0,4,5]);(focus (simp [normE];rfl));(focus (rw [List.drop_eq_nil_of_le (by omega)];simp)))
theorem l_cellsS (d : Nd) (v : Int) (hd : d.cells.length < 2000000) : ∀ i : Nat,i ≤ d.cells.length → ∀ s,normE 2 (some [5,8,9]) s = ⟨[(5,.ptr 2 0 []),(8,.int .i64 v),(9,.int .i64 i)],[(2,⟨true,false,7,[d.v false 0],0⟩)],3⟩ →
 oc.loop 87 27 s = some (if ((d.cells.drop i).all fun c => inI c 0 (IntKind.i64.wrap (v - 1))) = true then (.exit 3,⟨[],[],2⟩) else (.ret,⟨[(4,.int .i64 3)],[],2⟩)) := by
 refine loop_ind (fun i => d.cells.length - i) _ (fun i => ⟨[(5,.ptr 2 0 []),(8,.int .i64 v),(9,.int .i64 i)],[(2,⟨true,false,7,[d.v false 0],0⟩)],3⟩) _ ?_
 intro i hi ih s hs
 refine loop_s cd87 rfl rfl hs ?_
 refine wa_ (wa_ (wc_region (w_ (m_ (h:=w_ (f_ (h:=w_ (l_ (h:=w_ (le (h:=w_ (b_ (h:=wo_nil (e_ (h:=aft_normal (?_))))))))))))))))
 refine c_ (h1:=?_) (h2:=?_)
 rotate_right 1
 focus
  intro c1
  simp at c1;have : i = d.cells.length := (by omega);subst this
  refine wc_exit (?_)
 rotate_right 1
 focus
  intro c1
  simp at c1;have hw := wrap_succ (i:=i) (by omega);obtain ⟨x,_,d1,g1⟩ := ints_cut c1
  refine wc_skip (?_)
 all_goals first
 | refine aft_exit ?_
 | (
  refine aft_normal ?_
  refine wa_ (wc_block (wa_ (wc_region (w_ (f_ (h:=w_ (l_ (h:=w_ (m_ (h:=w_ (x_ (h:=w_ (l_ (h:=w_ (m_ (h:=w_ (b_ (h:=w_ (ca (hc:=e_l1In _ _ _) (h:=?_))))))))))))))))))))
  refine w_ (u_ (h:=wo_nil (e_ (h:=aft_normal (?_)))))
  refine c_ (h1:=?_) (h2:=?_)
  rotate_right 1
  focus
   intro c2
   refine wc_skip (?_)
  rotate_right 1
  focus
   intro c2
   refine wa_ (wc_region (w_ (a_ (h:=wo_nil (e_ (h:=aft_normal (wc_ret (?_))))))))
  all_goals first | refine blk_normal ?_ | refine blk_ret ?_
  all_goals first
  | refine aft_ret ?_
  | (
   refine aft_normal ?_
   refine wc_region (w_ (m_ (h:=w_ (b_ (h:=w_ (a_ (h:=wo_nil (e_ (h:=?_)))))))))
   )
  )
 all_goals first
 | (refine (ih (i + 1) (by omega) ?_ _ ?_).trans ?_;(focus (first | omega | (simp;done) | (simp;omega)));(focus (simp [normE,hw];done));(focus (rw [d1];simp at c2 ⊢;grind)))
 | (apply end_leaf (ex:=Ext.ret) 2 (some [4]);(focus (simp [normE];rfl));(focus (rw [d1];simp at c2 ⊢;grind)))
 | (apply end_leaf (ex:=(Ext.exit 3)) 2 (some [4]);(focus (simp [normE];rfl));(focus (simp)))
theorem e_l3WidthI (pl : List Nd) (ws : List Int) (hp : pl.length < 2000000) (G : Good pl ws) (a : Int) (h0 : 0 ≤ a) (h1 : a < ws.length) : oc.call 162 [.lst false 0 (nds false 0 pl),.int .i64 a] = some (.int .i64 (at0 ws a),[]) := by
  have := e_l3Width pl ws hp G a.toNat (by omega)
  rwa [Int.toNat_of_nonneg h0] at this
def Hid (p : Prop) : Prop := p
theorem e_l3Node (pl : List Nd) (ws : List Int) (d : Nd) (hp : pl.length < 2000000) (hk : okN pl) (G : Good pl ws) (hx : pl[ws.length]? = some d) : oc.call 87 [.lst false 0 (nds false 0 pl),.int .i64 ws.length] = some (.int .i64 (stepC pl d ws),[]) := by
 have hd := hk d (List.mem_of_getElem? hx)
 have hlt : ws.length < pl.length := (List.getElem?_eq_some_iff.mp hx).1
 have g1 : (nds false 0 pl)[(ws.length : Int).toNat]? = some (d.v false 0) := nds_get (by simpa using hx)
 refine fun_s rfl cd87 rfl rfl rfl (by simp;rfl) (by simp;rfl) ?_
 refine wa_ (wc_region (w_ (a_ (h:=wo_nil (e_ (h:=aft_normal (wa_ (wc_region (w_ (m_ (h:=w_ (m_ (h:=w_ (x_ (h:=w_ (l_ (h:=w_ (al (h:=?_)))))))))))))))))))
 refine w0 (s_ (h:=wo_nil (e_ (h:=aft_normal (wa_ (wa_ (wc_region (w_ (f_ (h:=w_ (l_ (h:=w_ (ca (hc:=e_l1In _ _ _) (h:=w_ (u_ (h:=wo_nil (e_ (h:=aft_normal (?_)))))))))))))))))))
 refine c_ (h1:=?_) (h2:=?_)
 rotate_right 1
 focus
  intro c1
  first
  | exact dn c1
  | (
   have d1 := c1;try simp at d1
   refine wc_skip (?_)
   )
 rotate_right 1
 focus
  intro c1
  first
  | exact dn c1
  | (
   have d1 := c1;try simp at d1
   refine wa_ (wc_region (w_ (a_ (h:=wo_nil (e_ (h:=aft_normal (wc_ret (?_))))))))
   )
 all_goals first
 | refine aft_ret ?_
 | (
  refine aft_normal ?_
  refine wa_ (wa_ (wc_region (w_ (l_ (h:=w_ (ca (hc:=e_l3Named d hd (by simp [inI] at d1;omega)) (h:=w_ (u_ (h:=wo_nil (e_ (h:=aft_normal (?_))))))))))))
  refine c_ (h1:=?_) (h2:=?_)
  rotate_right 1
  focus
   intro c2
   first
   | exact dn c2
   | (
    have d2 := c2;try simp at d2
    have hpl : Hid (d = plainN d) := d2;clear d2 c2
    refine wc_skip (?_)
    )
  rotate_right 1
  focus
   intro c2
   first
   | exact dn c2
   | (
    have d2 := c2;try simp at d2
    refine wa_ (wc_region (w_ (a_ (h:=wo_nil (e_ (h:=aft_normal (wc_ret (?_))))))))
    )
  all_goals first
  | refine aft_ret ?_
  | (
   refine aft_normal ?_
   refine wa_ (wa_ (wc_region (w_ (a_ (h:=wo_nil (e_ (h:=aft_normal (wc_block (?_)))))))))
   refine wc_loopI (l_readsS pl d ws.length (by omega) (by omega) 0 (by omega) _ (by simp [normE])) ?_ ?_
   rotate_right 1
   focus
    intro c3
    first
    | exact dn c3
    | (
     have d3 := c3;try simp at d3
     have d3' : (readsN d).all (okR pl ws.length) = false := (by simpa using c3)
     skip
     )
   rotate_right 1
   focus
    intro c3
    first
    | exact dn c3
    | (
     have d3 := c3;try simp at d3
     have d3' : (readsN d).all (okR pl ws.length) = true := (by simpa using c3);obtain ⟨k1,k2⟩ := fit_of (i:=ws.length) (by omega) (by simpa using c3)
     skip
     )
   all_goals first | refine blk_ret ?_ | refine blk_exit ?_
   all_goals first
   | refine aft_ret ?_
   | (
    refine aft_normal ?_
    refine wa_ (wa_ (wc_region (w_ (f_ (h:=w_ (l_ (h:=w_ (bE (h:=wo_nil (e_ (h:=aft_normal (?_))))))))))))
    refine c_ (h1:=?_) (h2:=?_)
    rotate_right 1
    focus
     intro c4
     first
     | exact dn c4
     | (
      have d4 := c4;try simp at d4
      obtain ⟨h3,h4⟩ := k1 (by omega)
      refine wc_skip (?_)
      )
    rotate_right 1
    focus
     intro c4
     first
     | exact dn c4
     | (
      have d4 := c4;try simp at d4
      refine wa_ (wa_ (wc_region (w_ (f_ (h:=w_ (l_ (h:=w_ (ca (hc:=e_l1In _ _ _) (h:=w_ (u_ (h:=wo_nil (e_ (h:=aft_normal (?_))))))))))))))
      refine c_ (h1:=?_) (h2:=?_)
      rotate_right 1
      focus
       intro c5
       first
       | exact dn c5
       | (
        have d5 := c5;try simp at d5
        refine wc_skip (?_)
        )
      rotate_right 1
      focus
       intro c5
       first
       | exact dn c5
       | (
        have d5 := c5;try simp at d5
        refine wa_ (wc_region (w_ (a_ (h:=wo_nil (e_ (h:=aft_normal (wc_ret (?_))))))))
        )
      all_goals first
      | refine aft_ret ?_
      | (
       refine aft_normal ?_
       refine wa_ (wc_region (w_ (a_ (h:=wo_nil (e_ (h:=aft_normal (wc_ret (?_))))))))
       )
      )
    all_goals first
    | refine aft_ret ?_
    | (
     refine aft_normal ?_
     refine wa_ (wc_region (w_ (m_ (h:=w_ (f_ (h:=w_ (l_ (h:=w_ (ca (hc:=e_l3WidthI pl ws hp G _ h3 h4) (h:=w_ (a_ (h:=wo_nil (e_ (h:=aft_normal (wa_ (wa_ (wc_region (?_))))))))))))))))))
     refine w_ (f_ (h:=w_ (l_ (h:=wo_nil (e_ (h:=aft_normal (wc_block (wa_ (wc_region (w_ (bE (h:=w_ (a_ (h:=wo_nil (e_ (h:=aft_normal (?_)))))))))))))))))
     refine c_ (h1:=?_) (h2:=?_)
     rotate_right 1
     focus
      intro c6
      first
      | exact dn c6
      | (
       have d6 := c6;try simp at d6
       refine wa_ (wc_region (w_ (bE (h:=w_ (a_ (h:=wo_nil (e_ (h:=aft_normal (?_)))))))))
       refine c_ (h1:=?_) (h2:=?_)
       rotate_right 1
       focus
        intro c7
        first
        | exact dn c7
        | (
         have d7 := c7;try simp at d7
         refine wa_ (wc_region (w_ (bE (h:=w_ (a_ (h:=wo_nil (e_ (h:=aft_normal (?_)))))))))
         refine c_ (h1:=?_) (h2:=?_)
         rotate_right 1
         focus
          intro c8
          first
          | exact dn c8
          | (
           have d8 := c8;try simp at d8
           refine wa_ (wc_region (w_ (bE (h:=w_ (a_ (h:=wo_nil (e_ (h:=aft_normal (?_)))))))))
           refine c_ (h1:=?_) (h2:=?_)
           rotate_right 1
           focus
            intro c9
            first
            | exact dn c9
            | (
             have d9 := c9;try simp at d9
             refine wa_ (wc_region (w_ (bE (h:=w_ (a_ (h:=wo_nil (e_ (h:=aft_normal (?_)))))))))
             refine c_ (h1:=?_) (h2:=?_)
             rotate_right 1
             focus
              intro c10
              first
              | exact dn c10
              | (
               have d10 := c10;try simp at d10
               refine wa_ (wa_ (wc_region (w_ (bE (h:=w_ (a_ (h:=wo_nil (e_ (h:=aft_normal (?_))))))))))
               refine c_ (h1:=?_) (h2:=?_)
               rotate_right 1
               focus
                intro c11
                first
                | exact dn c11
                | (
                 have d11 := c11;try simp at d11
                 refine wa_ (wc_region (w_ (bE (h:=w_ (a_ (h:=wo_nil (e_ (h:=aft_normal (?_)))))))))
                 refine c_ (h1:=?_) (h2:=?_)
                 rotate_right 1
                 focus
                  intro c12
                  first
                  | exact dn c12
                  | (
                   have d12 := c12;try simp at d12
                   refine wc_region (w_ (bE (h:=w_ (a_ (h:=wo_nil (e_ (h:=?_)))))))
                   )
                 rotate_right 1
                 focus
                  intro c12
                  first
                  | exact dn c12
                  | (
                   have d12 := c12;try simp at d12
                   refine wc_skip (?_)
                   )
                 )
               rotate_right 1
               focus
                intro c11
                first
                | exact dn c11
                | (
                 have d11 := c11;try simp at d11
                 refine wc_skip (?_)
                 )
               all_goals first
               | (
                refine aft_normal ?_
                refine c_ (h1:=?_) (h2:=?_)
                rotate_right 1
                focus
                 intro c13
                 first
                 | exact dn c13
                 | (
                  have d13 := c13;try simp at d13
                  refine wc_skip (?_)
                  )
                rotate_right 1
                focus
                 intro c13
                 first
                 | exact dn c13
                 | (
                  have d13 := c13;try simp at d13
                  refine wa_ (wc_region (w_ (f_ (h:=w_ (l_ (h:=w_ (m_ (h:=w_ (b_ (h:=w_ (ca (hc:=e_l1In _ _ _) (h:=w_ (u_ (h:=wo_nil (e_ (h:=aft_normal (?_)))))))))))))))))
                  refine c_ (h1:=?_) (h2:=?_)
                  rotate_right 1
                  focus
                   intro c14
                   first
                   | exact dn c14
                   | (
                    have d14 := c14;try simp at d14
                    refine wc_skip (?_)
                    )
                  rotate_right 1
                  focus
                   intro c14
                   first
                   | exact dn c14
                   | (
                    have d14 := c14;try simp at d14
                    refine wa_ (wc_region (w_ (a_ (h:=wo_nil (e_ (h:=aft_normal (wc_ret (?_))))))))
                    )
                  )
                )
               )
             rotate_right 1
             focus
              intro c10
              first
              | exact dn c10
              | (
               have d10 := c10;try simp at d10
               refine wa_ (wc_draw (y_ (f_ (h:=ax_ (h:=y_ (l_ (h:=ax_ (h:=y_ (m_ (h:=ax_ (h:=y_ (ca (hc:=e_l1Min _ _) (h:=ax_ (h:=y_ (ca (hc:=e_l1In _ _ _) (h:=ax_ (h:=y_ (u_ (h:=ax_ (h:=wo_nil (ed (h:=aft_normal (?_)))))))))))))))))))))))
               refine c_ (h1:=?_) (h2:=?_)
               rotate_right 1
               focus
                intro c15
                first
                | exact dn c15
                | (
                 have d15 := c15;try simp at d15
                 refine wc_skip (?_)
                 )
               rotate_right 1
               focus
                intro c15
                first
                | exact dn c15
                | (
                 have d15 := c15;try simp at d15
                 refine wa_ (wc_region (w_ (a_ (h:=wo_nil (e_ (h:=aft_normal (wc_ret (?_))))))))
                 )
               )
             )
           rotate_right 1
           focus
            intro c9
            first
            | exact dn c9
            | (
             have d9 := c9;try simp at d9
             obtain ⟨h5,h6⟩ := k2 (by omega)
             refine wa_ (wc_region (w_ (m_ (h:=w_ (f_ (h:=w_ (l_ (h:=w_ (ca (hc:=e_l3WidthI pl ws hp G _ h5 h6) (h:=w_ (a_ (h:=wo_nil (e_ (h:=aft_normal (wa_ (wa_ (wc_draw (?_))))))))))))))))))
             refine y_ (f_ (h:=ax_ (h:=y_ (l_ (h:=ax_ (h:=y_ (m_ (h:=ax_ (h:=y_ (m_ (h:=ax_ (h:=y_ (ca (hc:=e_l1Min _ _) (h:=ax_ (h:=y_ (ca (hc:=e_l1In _ _ _) (h:=ax_ (h:=y_ (u_ (h:=ax_ (h:=wo_nil (ed (h:=aft_normal (?_))))))))))))))))))))))))
             refine c_ (h1:=?_) (h2:=?_)
             rotate_right 1
             focus
              intro c16
              first
              | exact dn c16
              | (
               have d16 := c16;try simp at d16
               refine wc_skip (?_)
               )
             rotate_right 1
             focus
              intro c16
              first
              | exact dn c16
              | (
               have d16 := c16;try simp at d16
               refine wa_ (wc_region (w_ (a_ (h:=wo_nil (e_ (h:=aft_normal (wc_ret (?_))))))))
               )
             all_goals first
             | refine aft_ret ?_
             | (
              refine aft_normal ?_
              refine wa_ (wc_region (w_ (m_ (h:=w_ (m_ (h:=w_ (b_ (h:=w_ (f_ (h:=w_ (l_ (h:=w_ (b_ (h:=w_ (b_ (h:=wo_nil (e_ (h:=aft_normal (?_)))))))))))))))))))
              refine c_ (h1:=?_) (h2:=?_)
              rotate_right 1
              focus
               intro c17
               first
               | exact dn c17
               | (
                have d17 := c17;try simp at d17
                refine wc_skip (?_)
                )
              rotate_right 1
              focus
               intro c17
               first
               | exact dn c17
               | (
                have d17 := c17;try simp at d17
                refine wa_ (wc_region (w_ (a_ (h:=wo_nil (e_ (h:=aft_normal (wc_ret (?_))))))))
                )
              )
             )
           )
         rotate_right 1
         focus
          intro c8
          first
          | exact dn c8
          | (
           have d8 := c8;try simp at d8
           obtain ⟨h5,h6⟩ := k2 (by omega)
           refine wa_ (wc_region (w_ (m_ (h:=w_ (m_ (h:=w_ (f_ (h:=w_ (l_ (h:=w_ (ca (hc:=e_l3WidthI pl ws hp G _ h5 h6) (h:=w_ (bE (h:=wo_nil (e_ (h:=aft_normal (?_)))))))))))))))))
           refine c_ (h1:=?_) (h2:=?_)
           rotate_right 1
           focus
            intro c18
            first
            | exact dn c18
            | (
             have d18 := c18;try simp at d18
             refine wc_skip (?_)
             )
           rotate_right 1
           focus
            intro c18
            first
            | exact dn c18
            | (
             have d18 := c18;try simp at d18
             refine wa_ (wc_region (w_ (a_ (h:=wo_nil (e_ (h:=aft_normal (wc_ret (?_))))))))
             )
           )
         )
       rotate_right 1
       focus
        intro c7
        first
        | exact dn c7
        | (
         have d7 := c7;try simp at d7
         refine wa_ (wa_ (wc_region (w_ (f_ (h:=w_ (l_ (h:=w_ (le (h:=w_ (b_ (h:=w_ (m_ (h:=?_)))))))))))))
         refine gw_ (h1:=?_) (h2:=?_)
         rotate_right 1
         focus
          intro c19
          first
          | exact dn c19
          | (
           have d19 := c19;try simp at d19
           refine go_ (h:=go_ (h:=go_ (h:=go_ (h:=?_))))
           )
         rotate_right 1
         focus
          intro c19
          first
          | exact dn c19
          | (
           have d19 := c19;try simp at d19
           refine g_ (h:=w_ (f_ (h:=g_ (h:=w_ (l_ (h:=g_ (h:=w_ (le (h:=g_ (h:=w_ (b_ (h:=?_))))))))))))
           )
         all_goals
          refine w_ (pk (h:=wo_nil (e_ (h:=?_))))
         all_goals first
         | (
          refine aft_normal ?_
          refine c_ (h1:=?_) (h2:=?_)
          rotate_right 1
          focus
           intro c20
           first
           | exact dn c20
           | (
            have d20 := c20;try simp at d20
            refine wc_skip (?_)
            )
          rotate_right 1
          focus
           intro c20
           first
           | exact dn c20
           | (
            have d20 := c20;try simp at d20
            refine wa_ (wc_region (w_ (a_ (h:=wo_nil (e_ (h:=aft_normal (wc_ret (?_))))))))
            )
          )
         all_goals first
         | refine aft_ret ?_
         | (
          refine aft_normal ?_
          refine wa_ (wc_region (w_ (a_ (h:=wo_nil (e_ (h:=aft_normal (wc_block (?_))))))))
          refine wc_loopI (l_cellsS d (at0 ws d.a) hd 0 (by omega) _ (by simp [normE])) ?_ ?_
          rotate_right 1
          focus
           intro c21
           first
           | exact dn c21
           | (
            have d21 := c21;try simp at d21
            skip
            )
          rotate_right 1
          focus
           intro c21
           first
           | exact dn c21
           | (
            have d21 := c21;try simp at d21
            skip
            )
          all_goals first | refine blk_ret ?_ | refine blk_exit ?_
          )
         )
       )
     rotate_right 1
     focus
      intro c6
      first
      | exact dn c6
      | (
       have d6 := c6;try simp at d6
       refine wa_ (wc_region (w_ (f_ (h:=w_ (l_ (h:=w_ (m_ (h:=w_ (b_ (h:=w_ (ca (hc:=e_l1In _ _ _) (h:=w_ (u_ (h:=w_ (m_ (h:=?_))))))))))))))))
       refine gw_ (h1:=?_) (h2:=?_)
       rotate_right 1
       focus
        intro c22
        first
        | exact dn c22
        | (
         have d22 := c22;try simp at d22
         refine go_ (h:=go_ (h:=go_ (h:=go_ (h:=?_))))
         )
       rotate_right 1
       focus
        intro c22
        first
        | exact dn c22
        | (
         have d22 := c22;try simp at d22
         refine g_ (h:=w_ (f_ (h:=g_ (h:=w_ (l_ (h:=g_ (h:=w_ (ca (hc:=e_l1In _ _ _) (h:=g_ (h:=w_ (u_ (h:=?_))))))))))))
         )
       all_goals
        refine w_ (pk (h:=w_ (m_ (h:=?_))))
        refine gw_ (h1:=?_) (h2:=?_)
        rotate_right 1
        focus
         intro c23
         first
         | exact dn c23
         | (
          have d23 := c23;try simp at d23
          refine go_ (h:=go_ (h:=go_ (h:=go_ (h:=?_))))
          )
        rotate_right 1
        focus
         intro c23
         first
         | exact dn c23
         | (
          have d23 := c23;try simp at d23
          refine g_ (h:=w_ (f_ (h:=g_ (h:=w_ (l_ (h:=g_ (h:=w_ (ca (hc:=e_l1In _ _ _) (h:=g_ (h:=w_ (u_ (h:=?_))))))))))))
          )
        all_goals
         refine w_ (pk (h:=wo_nil (e_ (h:=?_))))
       all_goals first
       | (
        refine aft_normal ?_
        refine c_ (h1:=?_) (h2:=?_)
        rotate_right 1
        focus
         intro c24
         first
         | exact dn c24
         | (
          have d24 := c24;try simp at d24
          refine wc_skip (?_)
          )
        rotate_right 1
        focus
         intro c24
         first
         | exact dn c24
         | (
          have d24 := c24;try simp at d24
          refine wa_ (wc_region (w_ (a_ (h:=wo_nil (e_ (h:=aft_normal (wc_ret (?_))))))))
          )
        )
       )
     all_goals first | refine blk_normal ?_ | refine blk_ret ?_
     all_goals first
     | refine aft_ret ?_
     | (
      refine aft_normal ?_
      refine wa_ (wc_region (w_ (a_ (h:=wo_nil (e_ (h:=aft_normal (wc_ret (?_))))))))
      )
     )
    )
   )
  )
 all_goals (refine fin_ (hr:=(res_tmp rfl res_nil)) (h:=?_);(focus (clear hk G;simp only [Hid] at *;simp [stepC,faultN,widthN];grind [inI])))
theorem good_nil (pl : List Nd) : Good pl [] := fun n h => by simp at h
theorem step_ok {pl : List Nd} {d : Nd} {out : List Int} (hl : out.length < 2000000) (h : stepC pl d out = 0) : fitN d out.length := by
  unfold stepC at h
  split at h
  · cases h
  · split at h
    · cases h
    · split at h
      · cases h
      · rename_i h1 h2 h3
        exact fit_of hl (by simpa using h3)
theorem good_snoc {pl : List Nd} {d : Nd} {ws : List Int} (hk : okN pl) (hl : ws.length < 2000000) (G : Good pl ws) (hx : pl[ws.length]? = some d) (h : stepC pl d ws = 0) : Good pl (ws ++ [widthN d ws]) := by
  intro n hn
  by_cases hlt : n < ws.length
  · obtain ⟨e,h1,h2,h3⟩ := G n hlt
    refine ⟨e,h1,?_,h3⟩
    rw [List.take_append_of_le_length (by omega),← h2]
    simp only [at0,List.getD_eq_getElem?_getD]
    rw [List.getElem?_append_left (by omega)]
  · have : n = ws.length := by simp at hn;omega
    subst this
    refine ⟨d,hx,?_,step_ok hl h,hk d (List.mem_of_getElem? hx)⟩
    rw [List.take_left]
    simp [at0,List.getD_eq_getElem?_getD]
theorem l_planS (pl : List Nd) (hp : pl.length < 2000000) (hk : okN pl) : ∀ ws : List Int,(Good pl ws ∧ ws.length ≤ pl.length) → ∀ s,normE 1 (some [0,3]) s = ⟨[(0,.lst false 0 (nds false 0 pl)),(3,.int .i64 ws.length)],[],1⟩ →
 oc.loop 23 4 s = some (if (lookR pl (pl.drop ws.length) ws).2 = 0 then (.exit 0,⟨[],[],1⟩) else (.ret,⟨[(2,.int .i64 (lookR pl (pl.drop ws.length) ws).2)],[],1⟩)) := by
 refine loop_ind (σ:=List Int) (fun ws => pl.length - ws.length) _ (fun ws => ⟨[(0,.lst false 0 (nds false 0 pl)),(3,.int .i64 ws.length)],[],1⟩) _ ?_
 rintro ws ⟨G,hi⟩ ih s hs
 refine loop_s cd23 rfl rfl hs ?_
 refine wa_ (wa_ (wc_region (w_ (m_ (h:=w_ (m_ (h:=w_ (le (h:=w_ (b_ (h:=wo_nil (e_ (h:=aft_normal (?_))))))))))))))
 refine c_ (h1:=?_) (h2:=?_)
 rotate_right 1
 focus
  intro c1
  first
  | exact dn c1
  | (
   have d1 := c1;try simp at d1
   refine wc_exit (?_)
   )
 rotate_right 1
 focus
  intro c1
  first
  | exact dn c1
  | (
   have d1 := c1;try simp at d1
   have hw := wrap_succ (i:=ws.length) (by omega);obtain ⟨d,hx,e1,g1⟩ := nds_cut (t:=false) (s:=0) (l:=pl) (i:=ws.length) (by omega)
   refine wc_skip (?_)
   )
 all_goals first
 | refine aft_exit ?_
 | (
  refine aft_normal ?_
  refine wa_ (wc_block (wa_ (wc_region (w_ (m_ (h:=w_ (m_ (h:=w_ (ca (hc:=e_l3Node pl ws d hp hk G hx) (h:=w_ (a_ (h:=wo_nil (e_ (h:=aft_normal (wa_ (wc_region (?_)))))))))))))))))
  refine w_ (m_ (h:=w_ (bE (h:=wo_nil (e_ (h:=aft_normal (?_)))))))
  refine c_ (h1:=?_) (h2:=?_)
  rotate_right 1
  focus
   intro c2
   first
   | exact dn c2
   | (
    have d2 := c2;try simp at d2
    refine wc_skip (?_)
    )
  rotate_right 1
  focus
   intro c2
   first
   | exact dn c2
   | (
    have d2 := c2;try simp at d2
    refine wa_ (wc_region (w_ (m_ (h:=w_ (a_ (h:=wo_nil (e_ (h:=aft_normal (wc_ret (?_))))))))))
    )
  all_goals first | refine blk_normal ?_ | refine blk_ret ?_
  all_goals first
  | refine aft_ret ?_
  | (
   refine aft_normal ?_
   refine wc_region (w_ (m_ (h:=w_ (b_ (h:=w_ (a_ (h:=wo_nil (e_ (h:=?_)))))))))
   )
  )
 all_goals first
 | (refine (ih (ws ++ [widthN d ws]) (⟨good_snoc hk (by omega) G hx d2,by simp;omega⟩) ?_ _ ?_).trans ?_;(focus (first | omega | (simp;done) | (simp;omega)));(focus (simp [normE,hw];done));(focus (rw [look_go e1 d2];simp)))
 | (apply end_leaf (ex:=Ext.ret) 1 (some [2]);(focus (simp [normE];rfl));(focus (rw [e1,lookR,if_neg d2];simp [d2])))
 | (apply end_leaf (ex:=(Ext.exit 0)) 1 (some [2]);(focus (simp [normE];rfl));(focus (rw [List.drop_eq_nil_of_le (by omega)];simp [lookR])))
theorem e_planS (pl : List Nd) (hp : pl.length < 2000000) (hk : okN pl) : oc.call 23 [.lst false 0 (nds false 0 pl)] = some (.int .i64 (lookN pl).2,[]) := by
 refine fun_s rfl cd23 rfl rfl rfl (by simp;rfl) (by simp;rfl) ?_
 refine wa_ (wc_region (w_ (a_ (h:=wo_nil (e_ (h:=aft_normal (wa_ (wa_ (wc_region (w_ (m_ (h:=w_ (le (h:=w_ (b_ (h:=w_ (m_ (h:=?_))))))))))))))))))
 refine gw_ (h1:=?_) (h2:=?_)
 rotate_right 1
 focus
  intro c1
  first
  | exact dn c1
  | (
   have d1 := c1;try simp at d1
   refine go_ (h:=go_ (h:=go_ (h:=?_)))
   )
 rotate_right 1
 focus
  intro c1
  first
  | exact dn c1
  | (
   have d1 := c1;try simp at d1
   refine g_ (h:=w_ (m_ (h:=g_ (h:=w_ (le (h:=g_ (h:=w_ (b_ (h:=?_)))))))))
   )
 all_goals
  refine w_ (pk (h:=wo_nil (e_ (h:=?_))))
 all_goals first
 | (
  refine aft_normal ?_
  refine c_ (h1:=?_) (h2:=?_)
  rotate_right 1
  focus
   intro c2
   first
   | exact dn c2
   | (
    have d2 := c2;try simp at d2
    refine wc_skip (?_)
    )
  rotate_right 1
  focus
   intro c2
   first
   | exact dn c2
   | (
    have d2 := c2;try simp at d2
    refine wa_ (wc_region (w_ (a_ (h:=wo_nil (e_ (h:=aft_normal (wc_ret (?_))))))))
    )
  )
 all_goals first
 | refine aft_ret ?_
 | (
  refine aft_normal ?_
  refine wa_ (wa_ (wc_region (w_ (a_ (h:=wo_nil (e_ (h:=aft_normal (wc_block (?_)))))))))
  refine wc_loopI (l_planS pl hp hk [] ⟨good_nil pl,by simp⟩ _ (by simp [normE])) ?_ ?_
  rotate_right 1
  focus
   intro c3
   first
   | exact dn c3
   | (
    have d3 := c3;try simp at d3
    skip
    )
  rotate_right 1
  focus
   intro c3
   first
   | exact dn c3
   | (
    have d3 := c3;try simp at d3
    skip
    )
  all_goals first | refine blk_ret ?_ | refine blk_exit ?_
  all_goals first
  | refine aft_ret ?_
  | (
   refine aft_normal ?_
   refine wa_ (wc_region (w_ (a_ (h:=wo_nil (e_ (h:=aft_normal (wc_ret (?_))))))))
   )
  )
 all_goals (refine fin_ (hr:=(res_tmp rfl res_nil)) (h:=?_);(focus (clear hk;first | (simp_all [lookN,inI];done) | (simp_all [lookN,inI] <;> grind))))
end Go.Proofs.Ytgkbmiaimjpbfaa.Ev
namespace Go.Proofs.Ytgkbmiaimjpbfaa.Ev
open Go
set_option maxRecDepth 100000
set_option linter.unusedSimpArgs false
set_option linter.unusedVariables false
set_option maxHeartbeats 2000000
end Go.Proofs.Ytgkbmiaimjpbfaa.Ev
namespace Go.Proofs.Ytgkbmiaimjpbfaa.Ev
open Go
set_option maxRecDepth 100000
set_option linter.unusedSimpArgs false
set_option linter.unusedVariables false
set_option maxHeartbeats 2000000
end Go.Proofs.Ytgkbmiaimjpbfaa.Ev
namespace Go.Proofs.Ytgkbmiaimjpbfaa.Ev
open Go
set_option maxRecDepth 100000
set_option linter.unusedSimpArgs false
set_option linter.unusedVariables false
set_option maxHeartbeats 2000000
end Go.Proofs.Ytgkbmiaimjpbfaa.Ev
namespace Go.Proofs.Ytgkbmiaimjpbfaa.Ev
open Go
set_option maxRecDepth 100000
set_option linter.unusedSimpArgs false
set_option linter.unusedVariables false
set_option maxHeartbeats 2000000
def nodesR (op : Int) : Nat → List Nd → List Int
  | _,[] => []
  | i,d :: r => if d.op = op then (i : Int) :: nodesR op (i + 1) r else nodesR op (i + 1) r
theorem nodesR_len {op : Int} : ∀ {l : List Nd} {i : Nat},(nodesR op i l).length ≤ l.length
  | [],i => by simp [nodesR]
  | d :: r,i => by
    have := nodesR_len (op:=op) (l:=r) (i:=i + 1)
    unfold nodesR
    split <;> simp <;> omega
theorem nodesR_mem {op : Int} : ∀ {l : List Nd} {i : Nat} {x : Int},x ∈ nodesR op i l → 0 ≤ x ∧ x < i + l.length
  | [],i,x,h => by simp [nodesR] at h
  | d :: r,i,x,h => by
    unfold nodesR at h
    split at h
    · rcases List.mem_cons.1 h with rfl | h
      · simp;omega
      · have := nodesR_mem h;simp;omega
    · have := nodesR_mem h;simp;omega
theorem l_nodesI (pl : List Nd) (op : Int) (hp : pl.length < 2000000) : ∀ x : Nat × (List Int),(x.1 ≤ pl.length ∧ x.2.length ≤ x.1) → ∀ s,normE 2 (some [1,5,9,10,11]) s = ⟨[(1,.int .i64 op),(5,.ref 2 0 x.2.length),(9,.lst false 0 (nds false 0 pl)),(10,.int .i64 pl.length),(11,.int .i64 x.1)],[(2,⟨false,false,1,ints x.2,0⟩)],3⟩ →
 oc.loop 235 3 s = some (.exit 0,⟨[(5,.ref 2 0 (x.2 ++ nodesR op x.1 (pl.drop x.1)).length)],[(2,⟨false,false,1,ints (x.2 ++ nodesR op x.1 (pl.drop x.1)),0⟩)],3⟩) := by
 refine loop_ind (σ:=Nat × (List Int)) (fun x => pl.length - x.1) _ (fun x => ⟨[(1,.int .i64 op),(5,.ref 2 0 x.2.length),(9,.lst false 0 (nds false 0 pl)),(10,.int .i64 pl.length),(11,.int .i64 x.1)],[(2,⟨false,false,1,ints x.2,0⟩)],3⟩) _ ?_
 rintro ⟨i,out⟩ hi ih s hs
 simp only at hi
 refine loop_s cd235 rfl rfl hs ?_
 obtain ⟨hi,ho⟩ := hi
 refine wa_ (wc_region (w_ (b_ (h:=wo_nil (e_ (h:=aft_normal (wa_ (?_))))))))
 refine c_ (h1:=?_) (h2:=?_)
 rotate_right 1
 focus
  intro c1
  first
  | exact dn c1
  | (
   have d1 := c1;try simp at d1
   refine wc_exit (?_)
   )
 rotate_right 1
 focus
  intro c1
  first
  | exact dn c1
  | (
   have d1 := c1;try simp at d1
   have hw := wrap_succ (i:=i) (by omega);obtain ⟨d,hx,e1,g1⟩ := nds_cut (t:=false) (s:=0) (l:=pl) (i:=i) (by omega)
   refine wc_skip (?_)
   )
 all_goals first
 | refine aft_exit ?_
 | (
  refine aft_normal ?_
  refine wa_ (wc_block (wa_ (wc_region (w_ (m_ (h:=w_ (x_ (h:=w_ (l_ (h:=w_ (al (h:=w_ (a_ (h:=w0 (s_ (h:=wo_nil (e_ (h:=aft_normal (?_)))))))))))))))))))
  refine wa_ (wc_region (w_ (f_ (h:=w_ (l_ (h:=w_ (m_ (h:=w_ (bE (h:=wo_nil (e_ (h:=aft_normal (?_)))))))))))))
  refine c_ (h1:=?_) (h2:=?_)
  rotate_right 1
  focus
   intro c2
   first
   | exact dn c2
   | (
    have d2 := c2;try simp at d2
    refine wc_skip (?_)
    )
  rotate_right 1
  focus
   intro c2
   first
   | exact dn c2
   | (
    have d2 := c2;try simp at d2
    refine wc_region (w_ (m_ (h:=w_ (m_ (h:=w_ (bs (h:=w_ (ap (h:=w_ (a_ (h:=wo_nil (e_ (h:=?_)))))))))))))
    )
  all_goals refine blk_normal ?_
  all_goals first
  | (
   refine aft_normal ?_
   refine wc_region (w_ (b_ (h:=w_ (m_ (h:=wo_nil (e_ (h:=?_)))))))
   )
  )
 all_goals first
 | (refine (ih ((i + 1,out ++ [(i : Int)])) (⟨by simp;omega,by simp;omega⟩) ?_ _ ?_).trans ?_;(focus (first | omega | (simp;done) | (simp;omega)));(focus (simp [normE,hw];done));(focus (rw [e1,nodesR,if_pos (by simpa using d2)];simp)))
 | (refine (ih ((i + 1,out)) (⟨by simp;omega,by simp;omega⟩) ?_ _ ?_).trans ?_;(focus (first | omega | (simp;done) | (simp;omega)));(focus (simp [normE,hw];done));(focus (rw [e1,nodesR,if_neg (by simpa using d2)])))
 | (apply end_leaf (ex:=(Ext.exit 0)) 2 (some [5]);(focus (simp [normE];rfl));(focus (rw [List.drop_eq_nil_of_le (by omega)];simp [nodesR])))
theorem e_nodesI (pl : List Nd) (op : Int) (hp : pl.length < 2000000) : oc.call 235 [.lst false 0 (nds false 0 pl),.int .i64 op] = some (.lst true 1 (ints (nodesR op 0 pl)),[]) := by
 refine fun_s rfl cd235 rfl rfl rfl (by simp;rfl) (by simp;rfl) ?_
 refine wa_ (wc_region (w_ (aN (h:=wo_nil (e_ (h:=aft_normal (wa_ (wc_region (w_ (bs (h:=w_ (a_ (h:=wo_nil (e_ (h:=aft_normal (wa_ (?_)))))))))))))))))
 refine wa_ (wc_region (w_ (m_ (h:=w_ (le (h:=w_ (m_ (h:=wo_nil (e_ (h:=aft_normal (wc_block (?_))))))))))))
 refine wc_loop (l_nodesI pl op hp (0,[]) (by simp) _ (by simp [normE])) ?_
 refine blk_exit (aft_normal (wa_ (wc_region (w_ (m_ (h:=w_ (a_ (h:=wo_nil (e_ (h:=aft_normal (wc_ret (?_))))))))))))
 all_goals (refine fin_ (hr:=(res_tmp rfl res_nil)) (h:=?_);(focus (first | (simp_all;done) | (simp_all <;> omega) | (simp_all <;> split <;> simp_all <;> omega))))
theorem l_nodesS (pl : List Nd) (op : Int) (hp : pl.length < 2000000) : ∀ x : Nat × (List Int),(x.1 ≤ pl.length ∧ x.2.length ≤ x.1) → ∀ s,normE 2 (some [0,1,5,6]) s = ⟨[(0,.lst false 0 (nds false 0 pl)),(1,.int .i64 op),(5,.ref 2 0 x.2.length),(6,.int .i64 x.1)],[(2,⟨false,false,1,ints x.2,0⟩)],3⟩ →
 oc.loop 209 3 s = some (.exit 0,⟨[(5,.ref 2 0 (x.2 ++ nodesR op x.1 (pl.drop x.1)).length)],[(2,⟨false,false,1,ints (x.2 ++ nodesR op x.1 (pl.drop x.1)),0⟩)],3⟩) := by
 refine loop_ind (σ:=Nat × (List Int)) (fun x => pl.length - x.1) _ (fun x => ⟨[(0,.lst false 0 (nds false 0 pl)),(1,.int .i64 op),(5,.ref 2 0 x.2.length),(6,.int .i64 x.1)],[(2,⟨false,false,1,ints x.2,0⟩)],3⟩) _ ?_
 rintro ⟨i,out⟩ hi ih s hs
 simp only at hi
 refine loop_s cd209 rfl rfl hs ?_
 obtain ⟨hi,ho⟩ := hi
 refine wa_ (wa_ (wc_region (w_ (m_ (h:=w_ (m_ (h:=w_ (le (h:=w_ (b_ (h:=wo_nil (e_ (h:=aft_normal (?_))))))))))))))
 refine c_ (h1:=?_) (h2:=?_)
 rotate_right 1
 focus
  intro c1
  first
  | exact dn c1
  | (
   have d1 := c1;try simp at d1
   refine wc_exit (?_)
   )
 rotate_right 1
 focus
  intro c1
  first
  | exact dn c1
  | (
   have d1 := c1;try simp at d1
   have hw := wrap_succ (i:=i) (by omega);obtain ⟨d,hx,e1,g1⟩ := nds_cut (t:=false) (s:=0) (l:=pl) (i:=i) (by omega)
   refine wc_skip (?_)
   )
 all_goals first
 | refine aft_exit ?_
 | (
  refine aft_normal ?_
  refine wa_ (wc_block (wa_ (wc_region (w_ (m_ (h:=w_ (m_ (h:=w_ (x_ (h:=w_ (f_ (h:=w_ (l_ (h:=w_ (m_ (h:=w_ (bE (h:=wo_nil (e_ (h:=?_))))))))))))))))))))
  refine aft_normal (?_)
  refine c_ (h1:=?_) (h2:=?_)
  rotate_right 1
  focus
   intro c2
   first
   | exact dn c2
   | (
    have d2 := c2;try simp at d2
    refine wc_skip (?_)
    )
  rotate_right 1
  focus
   intro c2
   first
   | exact dn c2
   | (
    have d2 := c2;try simp at d2
    refine wc_region (w_ (m_ (h:=w_ (m_ (h:=w_ (bs (h:=w_ (ap (h:=w_ (a_ (h:=wo_nil (e_ (h:=?_)))))))))))))
    )
  all_goals refine blk_normal ?_
  all_goals first
  | (
   refine aft_normal ?_
   refine wc_region (w_ (m_ (h:=w_ (b_ (h:=w_ (a_ (h:=wo_nil (e_ (h:=?_)))))))))
   )
  )
 all_goals first
 | (refine (ih ((i + 1,out ++ [(i : Int)])) (⟨by simp;omega,by simp;omega⟩) ?_ _ ?_).trans ?_;(focus (first | omega | (simp;done) | (simp;omega)));(focus (simp [normE,hw];done));(focus (rw [e1,nodesR,if_pos (by simpa using d2)];simp)))
 | (refine (ih ((i + 1,out)) (⟨by simp;omega,by simp;omega⟩) ?_ _ ?_).trans ?_;(focus (first | omega | (simp;done) | (simp;omega)));(focus (simp [normE,hw];done));(focus (rw [e1,nodesR,if_neg (by simpa using d2)])))
 | (apply end_leaf (ex:=(Ext.exit 0)) 2 (some [5]);(focus (simp [normE];rfl));(focus (rw [List.drop_eq_nil_of_le (by omega)];simp [nodesR])))
theorem e_nodesS (pl : List Nd) (op : Int) (hp : pl.length < 2000000) : oc.call 209 [.lst false 0 (nds false 0 pl),.int .i64 op] = some (.lst true 1 (ints (nodesR op 0 pl)),[]) := by
 refine fun_s rfl cd209 rfl rfl rfl (by simp;rfl) (by simp;rfl) ?_
 refine wa_ (wc_region (w_ (aN (h:=wo_nil (e_ (h:=aft_normal (wa_ (wc_region (w_ (bs (h:=w_ (a_ (h:=wo_nil (e_ (h:=aft_normal (wa_ (?_)))))))))))))))))
 refine wa_ (wc_region (w_ (a_ (h:=wo_nil (e_ (h:=aft_normal (wc_block (?_))))))))
 refine wc_loop (l_nodesS pl op hp (0,[]) (by simp) _ (by simp [normE])) ?_
 refine blk_exit (aft_normal (wa_ (wc_region (w_ (m_ (h:=w_ (a_ (h:=wo_nil (e_ (h:=aft_normal (wc_ret (?_))))))))))))
 all_goals (refine fin_ (hr:=(res_tmp rfl res_nil)) (h:=?_);(focus (first | (simp_all;done) | (simp_all <;> omega) | (simp_all <;> split <;> simp_all <;> omega))))
def firstC (w x : Int) : Ct := ⟨2 * x + 1,0,w⟩
theorem l_firstI (ns : List Int) (w : Int) (hl : ns.length < 2000000) (hm : ∀ x ∈ ns,0 ≤ x ∧ x < 2000000) : ∀ x : Nat × (List Ct),(x.1 ≤ ns.length ∧ x.2.length ≤ x.1) → ∀ s,normE 2 (some [1,5,10,11,12]) s = ⟨[(1,.int .i64 w),(5,.ref 2 0 x.2.length),(10,.ref 3 0 ns.length),(11,.int .i64 ns.length),(12,.int .i64 x.1)],[(2,⟨false,false,3,cts x.2,0⟩),(3,⟨false,false,1,ints ns,0⟩)],4⟩ →
 oc.loop 210 3 s = some (.exit 0,⟨[(5,.ref 2 0 (x.2 ++ (ns.drop x.1).map (firstC w)).length)],[(2,⟨false,false,3,cts (x.2 ++ (ns.drop x.1).map (firstC w)),0⟩)],3⟩) := by
 refine loop_ind (σ:=Nat × (List Ct)) (fun x => ns.length - x.1) _ (fun x => ⟨[(1,.int .i64 w),(5,.ref 2 0 x.2.length),(10,.ref 3 0 ns.length),(11,.int .i64 ns.length),(12,.int .i64 x.1)],[(2,⟨false,false,3,cts x.2,0⟩),(3,⟨false,false,1,ints ns,0⟩)],4⟩) _ ?_
 rintro ⟨i,out⟩ hi ih s hs
 simp only at hi
 refine loop_s cd210 rfl rfl hs ?_
 obtain ⟨hi,ho⟩ := hi
 refine wa_ (wc_region (w_ (b_ (h:=wo_nil (e_ (h:=aft_normal (wa_ (?_))))))))
 refine c_ (h1:=?_) (h2:=?_)
 rotate_right 1
 focus
  intro c1
  first
  | exact dn c1
  | (
   have d1 := c1;try simp at d1
   refine wc_exit (?_)
   )
 rotate_right 1
 focus
  intro c1
  first
  | exact dn c1
  | (
   have d1 := c1;try simp at d1
   have hw := wrap_succ (i:=i) (by omega);obtain ⟨x,hx,e1,g1⟩ := ints_cut (l:=ns) (i:=i) (by omega);have g2 : (ints ns)[i]? = some (.int .i64 x) := (by simpa using g1);obtain ⟨b1,b2⟩ := hm x (List.mem_of_getElem? hx);have hw2 : IntKind.i64.wrap (2 * x) = 2 * x := wrap_id (by omega) (by omega);have hw3 : IntKind.i64.wrap (2 * x + 1) = 2 * x + 1 := wrap_id (by omega) (by omega)
   refine wc_skip (?_)
   )
 all_goals first
 | refine aft_exit ?_
 | (
  refine aft_normal ?_
  refine wa_ (wc_block (wa_ (wc_region (w_ (x_ (h:=w_ (l_ (h:=w_ (a_ (h:=wo_nil (e_ (h:=aft_normal (wc_region (w_ (m_ (h:=w_ (m_ (h:=?_))))))))))))))))))
  refine w_ (b_ (h:=w_ (b_ (h:=w_ (m_ (h:=w_ (bd (h:=w_ (bs (h:=w_ (ap (h:=w_ (a_ (h:=wo_nil (e_ (h:=blk_normal (aft_normal (wc_region (w_ (b_ (h:=?_)))))))))))))))))))))
  refine w_ (m_ (h:=wo_nil (e_ (h:=?_))))
  )
 all_goals first
 | (refine (ih ((i + 1,out ++ [firstC w x])) (⟨by simp;omega,by simp;omega⟩) ?_ _ ?_).trans ?_;(focus (first | omega | (simp;done) | (simp;omega)));(focus (simp [normE,hw,hw2,hw3,firstC];done));(focus (rw [e1];simp [firstC])))
 | (apply end_leaf (ex:=(Ext.exit 0)) 2 (some [5]);(focus (simp [normE];rfl));(focus (rw [List.drop_eq_nil_of_le (by omega)];simp)))
theorem e_firstI (pl : List Nd) (w : Int) (hp : pl.length < 2000000) : oc.call 210 [.lst false 0 (nds false 0 pl),.int .i64 w] = some (.lst true 3 (cts ((nodesR 1 0 pl).map (firstC w))),[]) := by
 refine fun_s rfl cd210 rfl rfl rfl (by simp;rfl) (by simp;rfl) ?_
 have hl := nodesR_len (op:=1) (l:=pl) (i:=0)
 refine wa_ (wc_region (w_ (aN (h:=wo_nil (e_ (h:=aft_normal (wa_ (wc_region (w_ (bs (h:=w_ (a_ (h:=wo_nil (e_ (h:=aft_normal (wa_ (?_)))))))))))))))))
 refine wa_ (wc_region (w_ (m_ (h:=w_ (ca (hc:=e_nodesI pl 1 hp) (h:=w_ (le (h:=w_ (m_ (h:=wo_nil (e_ (h:=aft_normal (wc_block (?_))))))))))))))
 refine wc_loop (l_firstI (nodesR 1 0 pl) w (by omega) (fun x hx => by have := nodesR_mem hx;omega) (0,[]) (by simp) _ (by simp [normE])) ?_
 refine blk_exit (aft_normal (wa_ (wc_region (w_ (m_ (h:=w_ (a_ (h:=wo_nil (e_ (h:=aft_normal (wc_ret (?_))))))))))))
 all_goals (refine fin_ (hr:=(res_tmp rfl res_nil)) (h:=?_);(focus (simp [List.take_of_length_le])))
theorem l_firstS (ns : List Int) (w : Int) (hl : ns.length < 2000000) (hm : ∀ x ∈ ns,0 ≤ x ∧ x < 2000000) : ∀ x : Nat × (List Ct),(x.1 ≤ ns.length ∧ x.2.length ≤ x.1) → ∀ s,normE 2 (some [1,5,6,7]) s = ⟨[(1,.int .i64 w),(5,.ref 2 0 x.2.length),(6,.ref 3 0 ns.length),(7,.int .i64 x.1)],[(2,⟨false,false,3,cts x.2,0⟩),(3,⟨false,false,1,ints ns,0⟩)],4⟩ →
 oc.loop 137 4 s = some (.exit 0,⟨[(5,.ref 2 0 (x.2 ++ (ns.drop x.1).map (firstC w)).length)],[(2,⟨false,false,3,cts (x.2 ++ (ns.drop x.1).map (firstC w)),0⟩)],3⟩) := by
 refine loop_ind (σ:=Nat × (List Ct)) (fun x => ns.length - x.1) _ (fun x => ⟨[(1,.int .i64 w),(5,.ref 2 0 x.2.length),(6,.ref 3 0 ns.length),(7,.int .i64 x.1)],[(2,⟨false,false,3,cts x.2,0⟩),(3,⟨false,false,1,ints ns,0⟩)],4⟩) _ ?_
 rintro ⟨i,out⟩ hi ih s hs
 simp only at hi
 refine loop_s cd137 rfl rfl hs ?_
 obtain ⟨hi,ho⟩ := hi
 refine wa_ (wa_ (wc_region (w_ (m_ (h:=w_ (m_ (h:=w_ (le (h:=w_ (b_ (h:=wo_nil (e_ (h:=aft_normal (?_))))))))))))))
 refine c_ (h1:=?_) (h2:=?_)
 rotate_right 1
 focus
  intro c1
  first
  | exact dn c1
  | (
   have d1 := c1;try simp at d1
   refine wc_exit (?_)
   )
 rotate_right 1
 focus
  intro c1
  first
  | exact dn c1
  | (
   have d1 := c1;try simp at d1
   have hw := wrap_succ (i:=i) (by omega);obtain ⟨x,hx,e1,g1⟩ := ints_cut (l:=ns) (i:=i) (by omega);have g2 : (ints ns)[i]? = some (.int .i64 x) := (by simpa using g1);obtain ⟨b1,b2⟩ := hm x (List.mem_of_getElem? hx);have hw2 : IntKind.i64.wrap (2 * x) = 2 * x := wrap_id (by omega) (by omega);have hw3 : IntKind.i64.wrap (2 * x + 1) = 2 * x + 1 := wrap_id (by omega) (by omega)
   refine wc_skip (?_)
   )
 all_goals first
 | refine aft_exit ?_
 | (
  refine aft_normal ?_
  refine wa_ (wc_block (wc_region (w_ (m_ (h:=w_ (m_ (h:=w_ (m_ (h:=w_ (x_ (h:=w_ (l_ (h:=w_ (b_ (h:=w_ (b_ (h:=w_ (m_ (h:=w_ (bd (h:=?_)))))))))))))))))))))
  refine w_ (bs (h:=w_ (ap (h:=w_ (a_ (h:=wo_nil (e_ (h:=blk_normal (aft_normal (wc_region (w_ (m_ (h:=w_ (b_ (h:=w_ (a_ (h:=wo_nil (e_ (h:=?_)))))))))))))))))))
  )
 all_goals first
 | (refine (ih ((i + 1,out ++ [firstC w x])) (⟨by simp;omega,by simp;omega⟩) ?_ _ ?_).trans ?_;(focus (first | omega | (simp;done) | (simp;omega)));(focus (simp [normE,hw,hw2,hw3,firstC];done));(focus (rw [e1];simp [firstC])))
 | (apply end_leaf (ex:=(Ext.exit 0)) 2 (some [5]);(focus (simp [normE];rfl));(focus (rw [List.drop_eq_nil_of_le (by omega)];simp)))
theorem e_firstS (pl : List Nd) (w : Int) (hp : pl.length < 2000000) : oc.call 137 [.lst false 0 (nds false 0 pl),.int .i64 w] = some (.lst true 3 (cts ((nodesR 1 0 pl).map (firstC w))),[]) := by
 refine fun_s rfl cd137 rfl rfl rfl (by simp;rfl) (by simp;rfl) ?_
 have hl := nodesR_len (op:=1) (l:=pl) (i:=0)
 refine wa_ (wc_region (w_ (aN (h:=wo_nil (e_ (h:=aft_normal (wa_ (wc_region (w_ (bs (h:=w_ (a_ (h:=wo_nil (e_ (h:=aft_normal (wa_ (?_)))))))))))))))))
 refine wc_region (w_ (m_ (h:=w_ (ca (hc:=e_nodesS pl 1 hp) (h:=w_ (a_ (h:=wo_nil (e_ (h:=aft_normal (wa_ (wa_ (wc_region (w_ (a_ (h:=wo_nil (e_ (h:=aft_normal (?_))))))))))))))))))
 refine wc_block (?_)
 refine wc_loop (l_firstS (nodesR 1 0 pl) w (by omega) (fun x hx => by have := nodesR_mem hx;omega) (0,[]) (by simp) _ (by simp [normE])) ?_
 refine blk_exit (aft_normal (wa_ (wc_region (w_ (m_ (h:=w_ (a_ (h:=wo_nil (e_ (h:=aft_normal (wc_ret (?_))))))))))))
 all_goals (refine fin_ (hr:=(res_tmp rfl res_nil)) (h:=?_);(focus (simp [List.take_of_length_le])))
def firstN (pl : List Nd) (w : Int) : Int × List Ct := if (lookN pl).2 ≠ 0 then ((lookN pl).2,[]) else if inI w 1 3 = true then (0,(nodesR 1 0 pl).map (firstC w)) else (3,[])
@[simp] abbrev crv (r : Int × List Ct) : V := .agg [.int .i64 r.1,.lst true 3 (cts r.2)]
theorem e_firstNI (pl : List Nd) (w : Int) (hp : pl.length < 2000000) (hk : okN pl) : oc.call 138 [.lst false 0 (nds false 0 pl),.int .i64 w] = some (crv (firstN pl w),[]) := by
 refine fun_s rfl cd138 rfl rfl rfl (by simp;rfl) (by simp;rfl) ?_
 refine wa_ (wc_region (w_ (al (h:=wo_nil (e_ (h:=aft_normal (wa_ (wa_ (wc_region (w_ (m_ (h:=w_ (ca (hc:=e_planI pl hp hk) (h:=w_ (a_ (h:=wo_nil (e_ (h:=?_))))))))))))))))))
 refine aft_normal (wa_ (wc_region (w_ (m_ (h:=w_ (bE (h:=wo_nil (e_ (h:=aft_normal (?_))))))))))
 refine c_ (h1:=?_) (h2:=?_)
 rotate_right 1
 focus
  intro c1
  first
  | exact dn c1
  | (
   have d1 := c1;try simp at d1
   refine wc_skip (?_)
   )
 rotate_right 1
 focus
  intro c1
  first
  | exact dn c1
  | (
   have d1 := c1;try simp at d1
   refine wa_ (wc_region (w_ (m_ (h:=w_ (bd (h:=w0 (s_ (h:=wo_nil (e_ (h:=aft_normal (wc_ret (?_))))))))))))
   )
 all_goals first
 | refine aft_ret ?_
 | (
  refine aft_normal ?_
  refine wa_ (wa_ (wc_region (w_ (m_ (h:=w_ (ca (hc:=e_in _ _ _) (h:=w_ (u_ (h:=wo_nil (e_ (h:=aft_normal (?_))))))))))))
  refine c_ (h1:=?_) (h2:=?_)
  rotate_right 1
  focus
   intro c2
   first
   | exact dn c2
   | (
    have d2 := c2;try simp at d2
    refine wc_skip (?_)
    )
  rotate_right 1
  focus
   intro c2
   first
   | exact dn c2
   | (
    have d2 := c2;try simp at d2
    refine wa_ (wc_region (w_ (bd (h:=w0 (s_ (h:=wo_nil (e_ (h:=aft_normal (wc_ret (?_))))))))))
    )
  all_goals first
  | refine aft_ret ?_
  | (
   refine aft_normal ?_
   refine wa_ (wc_region (w_ (m_ (h:=w_ (m_ (h:=w_ (ca (hc:=e_firstI pl w hp) (h:=w_ (bd (h:=w0 (s_ (h:=wo_nil (e_ (h:=aft_normal (wc_ret (?_))))))))))))))))
   )
  )
 all_goals (refine fin_ (hr:=(res_cell (tys_ok.zero _ _ rfl) rfl (by simp;rfl) (by rfl) res_nil)) (h:=?_);(focus (clear hk;simp only [firstN,crv];(repeat' split) <;> simp_all [List.take_of_length_le])))
end Go.Proofs.Ytgkbmiaimjpbfaa.Ev
namespace Go.Proofs.Ytgkbmiaimjpbfaa.Ev
open Go
set_option maxRecDepth 100000
set_option linter.unusedSimpArgs false
set_option linter.unusedVariables false
set_option maxHeartbeats 2000000
end Go.Proofs.Ytgkbmiaimjpbfaa.Ev
namespace Go.Proofs.Ytgkbmiaimjpbfaa.Ev
open Go
set_option maxRecDepth 100000
set_option linter.unusedSimpArgs false
set_option linter.unusedVariables false
set_option maxHeartbeats 2000000
end Go.Proofs.Ytgkbmiaimjpbfaa.Ev
namespace Go.Proofs.Ytgkbmiaimjpbfaa.Ev
open Go
set_option maxRecDepth 100000
set_option linter.unusedSimpArgs false
set_option linter.unusedVariables false
set_option maxHeartbeats 2000000
theorem cellsAll_map {α : Type} {f : α → V} {k : Nat} (h : ∀ x,(f x).cells = k) : ∀ l : List α,V.cellsAll k (l.map f) = true
  | [] => rfl
  | x :: l => by simp only [List.map_cons,V.cellsAll,List.all_cons,h,decide_true,Bool.true_and];exact cellsAll_map h l
@[simp] theorem cellsAll_ints (l : List Int) : V.cellsAll 1 (ints l) = true := cellsAll_map (f:=.int .i64) (fun _ => rfl) l
@[simp] theorem cellsAll_ets (t : Bool) (l : List Et) : V.cellsAll 2 (ets t l) = true := cellsAll_map (f:=Et.v t) (fun _ => rfl) l
@[simp] theorem cellsAll_cts (l : List Ct) : V.cellsAll 3 (cts l) = true := cellsAll_map (f:=Ct.v) (fun _ => rfl) l
@[simp] theorem cellsAll_frs (t : Bool) (l : List Fr) : V.cellsAll 6 (frs t l) = true := cellsAll_map (f:=Fr.v t) (fun _ => rfl) l
@[simp] theorem cellsAll_nds (t : Bool) (s : Nat) (l : List Nd) : V.cellsAll 7 (nds t s l) = true := cellsAll_map (f:=fun d : Nd => d.v t s) (fun _ => rfl) l
theorem c1_I (l : List Int) (hl : l.length < 2000000) (h : l ≠ []) : runE oc cf 155 [.lst false 0 (ints l)] = some (.lst true 1 (ints l),[]) := by
 refine run_s cd155 rfl rfl rfl (by first | (simp;rfl) | rfl) (by first | (simp;rfl) | rfl) ?_
 have hne : ints l ≠ [] := by simpa [ints] using h
 refine wa_ (wc_region (w_ (aN (h:=wo_nil (e_ (h:=aft_normal (wa_ (wa_ (wc_region (w_ (m_ (h:=w_ (bN (h:=wo_nil (e_ (h:=aft_normal (?_)))))))))))))))))
 refine c_ (h1:=?_) (h2:=?_)
 rotate_right 1
 focus
  intro c1
  refine wc_skip (?_)
 rotate_right 1
 focus
  intro c1
  refine wa_ (wc_region (w_ (aN (h:=wo_nil (e_ (h:=aft_normal (wc_ret (?_))))))))
 all_goals first
 | refine aft_ret ?_
 | (
  refine aft_normal ?_
  refine wa_ (wc_region (w_ (bs (h:=w_ (m_ (h:=w_ (ap (h:=w_ (a_ (h:=wo_nil (e_ (h:=aft_normal (wc_ret (?_))))))))))))))
  )
 all_goals (refine fin_ (hr:=(res_tmp rfl res_nil)) (h:=?_);(focus (first | (simp_all;done) | (simp_all <;> omega) | (simp_all <;> split <;> simp_all <;> omega))))
theorem c2_I  : runE oc cf 155 [.emp true] = some (.lst true 1 [],[]) := by
 refine run_s cd155 rfl rfl rfl (by first | (simp;rfl) | rfl) (by first | (simp;rfl) | rfl) ?_
 refine wa_ (wc_region (w_ (aN (h:=wo_nil (e_ (h:=aft_normal (wa_ (wa_ (wc_region (w_ (m_ (h:=w_ (bN (h:=wo_nil (e_ (h:=aft_normal (?_)))))))))))))))))
 refine c_ (h1:=?_) (h2:=?_)
 rotate_right 1
 focus
  intro c1
  first
  | exact dn c1
  | (
   have d1 := c1;try simp at d1
   refine wc_skip (?_)
   )
 rotate_right 1
 focus
  intro c1
  first
  | exact dn c1
  | (
   have d1 := c1;try simp at d1
   refine wa_ (wc_region (w_ (aN (h:=wo_nil (e_ (h:=aft_normal (wc_ret (?_))))))))
   )
 all_goals first
 | refine aft_ret ?_
 | (
  refine aft_normal ?_
  refine wa_ (wc_region (w_ (bs (h:=w_ (m_ (h:=w_ (ap (h:=w_ (a_ (h:=wo_nil (e_ (h:=aft_normal (wc_ret (?_))))))))))))))
  )
 all_goals (refine fin_ (hr:=(res_tmp rfl res_nil)) (h:=?_);(focus (first | (simp_all;done) | (simp_all <;> omega) | (simp_all <;> split <;> simp_all <;> omega))))
theorem c3_I  : runE oc cf 155 [.emp false] = some (.lst true 1 [],[]) := by
 refine run_s cd155 rfl rfl rfl (by first | (simp;rfl) | rfl) (by first | (simp;rfl) | rfl) ?_
 refine wa_ (wc_region (w_ (aN (h:=wo_nil (e_ (h:=aft_normal (wa_ (wa_ (wc_region (w_ (m_ (h:=w_ (bN (h:=wo_nil (e_ (h:=aft_normal (?_)))))))))))))))))
 refine c_ (h1:=?_) (h2:=?_)
 rotate_right 1
 focus
  intro c1
  first
  | exact dn c1
  | (
   have d1 := c1;try simp at d1
   refine wc_skip (?_)
   )
 rotate_right 1
 focus
  intro c1
  first
  | exact dn c1
  | (
   have d1 := c1;try simp at d1
   refine wa_ (wc_region (w_ (aN (h:=wo_nil (e_ (h:=aft_normal (wc_ret (?_))))))))
   )
 all_goals first
 | refine aft_ret ?_
 | (
  refine aft_normal ?_
  refine wa_ (wc_region (w_ (bs (h:=w_ (m_ (h:=w_ (?_)))))))
  refine ap (hlen:=by decide) (h:=?_)
  refine w_ (a_ (h:=wo_nil (e_ (h:=aft_normal (wc_ret (?_))))))
  )
 all_goals (refine fin_ (hr:=(res_tmp rfl res_nil)) (h:=?_);(focus (first | (simp_all;done) | (simp_all <;> omega) | (simp_all <;> split <;> simp_all <;> omega))))
theorem e_cloneI (l : List Int) (hl : l.length < 2000000) : oc.call 155 [.lst false 0 (ints l)] = some (.lst true 1 (ints l),[]) :=
  nil_s rfl (fun h => c1_I l hl (by rintro rfl;exact h rfl)) (fun h => by have : l = [] := (by simpa [ints] using h);subst this;exact c2_I) (fun h => by have : l = [] := (by simpa [ints] using h);subst this;exact c3_I)
end Go.Proofs.Ytgkbmiaimjpbfaa.Ev
namespace Go.Proofs.Ytgkbmiaimjpbfaa.Ev
open Go
set_option maxRecDepth 100000
set_option linter.unusedSimpArgs false
set_option linter.unusedVariables false
set_option maxHeartbeats 2000000
theorem c1_N (l : List Nd) (hl : l.length < 2000000) (h : l ≠ []) : runE oc cf 211 [.lst false 0 (nds false 0 l)] = some (.lst true 7 (nds false 0 l),[]) := by
 refine run_s cd211 rfl rfl rfl (by first | (simp;rfl) | rfl) (by first | (simp;rfl) | rfl) ?_
 have hne : nds false 0 l ≠ [] := by simpa [nds] using h
 refine wa_ (wc_region (w_ (aN (h:=wo_nil (e_ (h:=aft_normal (wa_ (wa_ (wc_region (w_ (m_ (h:=w_ (bN (h:=wo_nil (e_ (h:=aft_normal (?_)))))))))))))))))
 refine c_ (h1:=?_) (h2:=?_)
 rotate_right 1
 focus
  intro c1
  refine wc_skip (?_)
 rotate_right 1
 focus
  intro c1
  refine wa_ (wc_region (w_ (aN (h:=wo_nil (e_ (h:=aft_normal (wc_ret (?_))))))))
 all_goals first
 | refine aft_ret ?_
 | (
  refine aft_normal ?_
  refine wa_ (wc_region (w_ (bs (h:=w_ (m_ (h:=w_ (ap (h:=w_ (a_ (h:=wo_nil (e_ (h:=aft_normal (wc_ret (?_))))))))))))))
  )
 all_goals (refine fin_ (hr:=(res_tmp rfl res_nil)) (h:=?_);(focus (first | (simp_all;done) | (simp_all <;> omega) | (simp_all <;> split <;> simp_all <;> omega))))
theorem c2_N  : runE oc cf 211 [.emp true] = some (.lst true 7 [],[]) := by
 refine run_s cd211 rfl rfl rfl (by first | (simp;rfl) | rfl) (by first | (simp;rfl) | rfl) ?_
 refine wa_ (wc_region (w_ (aN (h:=wo_nil (e_ (h:=aft_normal (wa_ (wa_ (wc_region (w_ (m_ (h:=w_ (bN (h:=wo_nil (e_ (h:=aft_normal (?_)))))))))))))))))
 refine c_ (h1:=?_) (h2:=?_)
 rotate_right 1
 focus
  intro c1
  first
  | exact dn c1
  | (
   have d1 := c1;try simp at d1
   refine wc_skip (?_)
   )
 rotate_right 1
 focus
  intro c1
  first
  | exact dn c1
  | (
   have d1 := c1;try simp at d1
   refine wa_ (wc_region (w_ (aN (h:=wo_nil (e_ (h:=aft_normal (wc_ret (?_))))))))
   )
 all_goals first
 | refine aft_ret ?_
 | (
  refine aft_normal ?_
  refine wa_ (wc_region (w_ (bs (h:=w_ (m_ (h:=w_ (ap (h:=w_ (a_ (h:=wo_nil (e_ (h:=aft_normal (wc_ret (?_))))))))))))))
  )
 all_goals (refine fin_ (hr:=(res_tmp rfl res_nil)) (h:=?_);(focus (first | (simp_all;done) | (simp_all <;> omega) | (simp_all <;> split <;> simp_all <;> omega))))
theorem c3_N  : runE oc cf 211 [.emp false] = some (.lst true 7 [],[]) := by
 refine run_s cd211 rfl rfl rfl (by first | (simp;rfl) | rfl) (by first | (simp;rfl) | rfl) ?_
 refine wa_ (wc_region (w_ (aN (h:=wo_nil (e_ (h:=aft_normal (wa_ (wa_ (wc_region (w_ (m_ (h:=w_ (bN (h:=wo_nil (e_ (h:=aft_normal (?_)))))))))))))))))
 refine c_ (h1:=?_) (h2:=?_)
 rotate_right 1
 focus
  intro c1
  first
  | exact dn c1
  | (
   have d1 := c1;try simp at d1
   refine wc_skip (?_)
   )
 rotate_right 1
 focus
  intro c1
  first
  | exact dn c1
  | (
   have d1 := c1;try simp at d1
   refine wa_ (wc_region (w_ (aN (h:=wo_nil (e_ (h:=aft_normal (wc_ret (?_))))))))
   )
 all_goals first
 | refine aft_ret ?_
 | (
  refine aft_normal ?_
  refine wa_ (wc_region (w_ (bs (h:=w_ (m_ (h:=w_ (ap (h:=w_ (a_ (h:=wo_nil (e_ (h:=aft_normal (wc_ret (?_))))))))))))))
  )
 all_goals (refine fin_ (hr:=(res_tmp rfl res_nil)) (h:=?_);(focus (first | (simp_all;done) | (simp_all <;> omega) | (simp_all <;> split <;> simp_all <;> omega))))
theorem e_cloneN (l : List Nd) (hl : l.length < 2000000) : oc.call 211 [.lst false 0 (nds false 0 l)] = some (.lst true 7 (nds false 0 l),[]) :=
  nil_s rfl (fun h => c1_N l hl (by rintro rfl;exact h rfl)) (fun h => by have : l = [] := (by simpa [nds] using h);subst this;exact c2_N) (fun h => by have : l = [] := (by simpa [nds] using h);subst this;exact c3_N)
section
variable {call : Call} {id base : Nat} {e : List (Nat × V)} {o : List (Nat × Ob)} {n : Nat} {t : TypeId} {K : V → List (Nat × Ob) → Prop}
theorem sR {x y : Operand} {z e0 e1 old : V} {t' : TypeId} {q j o2 m : Nat} {fs : List Nat} {ob ob2 : Ob} {o1 : List (Nat × Ob)} {ws : List V} (hz : cf.zero t' = some z := by exact tys_ok.zero _ _ rfl) (hx : opV e x = some (.ptr q j fs) := by exact rfl) (hy : opV e y = some (.ref o2 0 m) := by exact rfl) (ho : geta o q = some ob := by exact rfl) (hb : ob.bx = false := by rfl) (hg : ob.xs[j]? = some e0 := by first | assumption | exact set_at (by assumption)) (hgf : getF e0 fs = some old := by exact rfl) (hal : old.alike (.ref o2 0 m) = true := by rfl) (hzal : z.alike (.ref o2 0 m) = true := by rfl)
    (h2 : geta o o2 = some ob2 := by exact rfl) (hb2 : ob2.bx = false := by rfl) (hf2 : ob2.fx = false := by rfl) (hm : m = ob2.xs.length := by first | rfl | simp) (hd : dela o o2 = o1 := by (simp;rfl)) (hq1 : geta o1 q = some ob := by exact rfl) (hs : setF e0 fs (.lst true ob2.sz ob2.xs) = some e1 := by exact rfl) (hal2 : old.alike (.lst true ob2.sz ob2.xs) = true := by rfl) (hw : ob.xs.set j e1 = ws := by (try simp only [List.set_set]);rfl)
    (h : K .und ((q,⟨ob.bx,ob.fx,ob.sz,ws,ob.ver + 1⟩) :: o1)) : opK call cf id base e o n t (.store t' x y) K := by
  subst hd hm hw
  refine ⟨_,_,?_,h⟩
  have hgive : St.give ⟨e,o,n⟩ o2 0 ob2.xs.length = some (ob2.sz,ob2.xs,⟨e,dela o o2,n⟩) := by
    simp only [St.give,h2,hb2,hf2,Nat.zero_add,Nat.le_refl,and_self,if_true,List.drop_zero,List.take_length]
  have hfz : V.fz (.ref o2 0 ob2.xs.length) ⟨e,o,n⟩ = some (.lst true ob2.sz ob2.xs,⟨e,dela o o2,n⟩) := by
    simp only [V.fz,hgive,mp_some]
  have hget : ob.get j fs = some old := by simp only [Ob.get,hg,hgf]
  have hset : ob.set j fs (.lst true ob2.sz ob2.xs) = some { ob with xs := ob.xs.set j e1 } := by simp only [Ob.set,hg,hs,mp_some]
  have hsc : V.scal (.ref o2 0 ob2.xs.length) = false := rfl
  simp only [opE,hz,hx,hy,storeV,ho,hget,hal,hzal,and_self,if_true,hb,Bool.false_eq_true,if_false,hfz,hq1,hal2,hset,mp_some,hsc,Bool.and_false,puta]
end
end Go.Proofs.Ytgkbmiaimjpbfaa.Ev
namespace Go.Proofs.Ytgkbmiaimjpbfaa.Ev
open Go
set_option maxRecDepth 100000
set_option linter.unusedSimpArgs false
set_option linter.unusedVariables false
set_option maxHeartbeats 2000000
@[simp] theorem Nd.ne_undN (t : Bool) (s : Nat) (x : Nd) : (x.v t s = V.und) = False := by simp [Nd.v]
theorem c1_C (l : List Ct) (hl : l.length < 2000000) (h : l ≠ []) : runE oc cf 140 [.lst false 0 (cts l)] = some (.lst true 3 (cts l),[]) := by
 refine run_s cd140 rfl rfl rfl (by first | (simp;rfl) | rfl) (by first | (simp;rfl) | rfl) ?_
 have hne : cts l ≠ [] := by simpa [cts] using h
 refine wa_ (wc_region (w_ (aN (h:=wo_nil (e_ (h:=aft_normal (wa_ (wa_ (wc_region (w_ (m_ (h:=w_ (bN (h:=wo_nil (e_ (h:=aft_normal (?_)))))))))))))))))
 refine c_ (h1:=?_) (h2:=?_)
 rotate_right 1
 focus
  intro c1
  refine wc_skip (?_)
 rotate_right 1
 focus
  intro c1
  refine wa_ (wc_region (w_ (aN (h:=wo_nil (e_ (h:=aft_normal (wc_ret (?_))))))))
 all_goals first
 | refine aft_ret ?_
 | (
  refine aft_normal ?_
  refine wa_ (wc_region (w_ (bs (h:=w_ (m_ (h:=w_ (ap (h:=w_ (a_ (h:=wo_nil (e_ (h:=aft_normal (wc_ret (?_))))))))))))))
  )
 all_goals (refine fin_ (hr:=(res_tmp rfl res_nil)) (h:=?_);(focus (first | (simp_all;done) | (simp_all <;> omega) | (simp_all <;> split <;> simp_all <;> omega))))
theorem c2_C  : runE oc cf 140 [.emp true] = some (.lst true 3 [],[]) := by
 refine run_s cd140 rfl rfl rfl (by first | (simp;rfl) | rfl) (by first | (simp;rfl) | rfl) ?_
 refine wa_ (wc_region (w_ (aN (h:=wo_nil (e_ (h:=aft_normal (wa_ (wa_ (wc_region (w_ (m_ (h:=w_ (bN (h:=wo_nil (e_ (h:=aft_normal (?_)))))))))))))))))
 refine c_ (h1:=?_) (h2:=?_)
 rotate_right 1
 focus
  intro c1
  first
  | exact dn c1
  | (
   have d1 := c1;try simp at d1
   refine wc_skip (?_)
   )
 rotate_right 1
 focus
  intro c1
  first
  | exact dn c1
  | (
   have d1 := c1;try simp at d1
   refine wa_ (wc_region (w_ (aN (h:=wo_nil (e_ (h:=aft_normal (wc_ret (?_))))))))
   )
 all_goals first
 | refine aft_ret ?_
 | (
  refine aft_normal ?_
  refine wa_ (wc_region (w_ (bs (h:=w_ (m_ (h:=w_ (ap (h:=w_ (a_ (h:=wo_nil (e_ (h:=aft_normal (wc_ret (?_))))))))))))))
  )
 all_goals (refine fin_ (hr:=(res_tmp rfl res_nil)) (h:=?_);(focus (first | (simp_all;done) | (simp_all <;> omega) | (simp_all <;> split <;> simp_all <;> omega))))
theorem c3_C  : runE oc cf 140 [.emp false] = some (.lst true 3 [],[]) := by
 refine run_s cd140 rfl rfl rfl (by first | (simp;rfl) | rfl) (by first | (simp;rfl) | rfl) ?_
 refine wa_ (wc_region (w_ (aN (h:=wo_nil (e_ (h:=aft_normal (wa_ (wa_ (wc_region (w_ (m_ (h:=w_ (bN (h:=wo_nil (e_ (h:=aft_normal (?_)))))))))))))))))
 refine c_ (h1:=?_) (h2:=?_)
 rotate_right 1
 focus
  intro c1
  first
  | exact dn c1
  | (
   have d1 := c1;try simp at d1
   refine wc_skip (?_)
   )
 rotate_right 1
 focus
  intro c1
  first
  | exact dn c1
  | (
   have d1 := c1;try simp at d1
   refine wa_ (wc_region (w_ (aN (h:=wo_nil (e_ (h:=aft_normal (wc_ret (?_))))))))
   )
 all_goals first
 | refine aft_ret ?_
 | (
  refine aft_normal ?_
  refine wa_ (wc_region (w_ (bs (h:=w_ (m_ (h:=w_ (ap (h:=w_ (a_ (h:=wo_nil (e_ (h:=aft_normal (wc_ret (?_))))))))))))))
  )
 all_goals (refine fin_ (hr:=(res_tmp rfl res_nil)) (h:=?_);(focus (first | (simp_all;done) | (simp_all <;> omega) | (simp_all <;> split <;> simp_all <;> omega))))
theorem e_cloneC (l : List Ct) (hl : l.length < 2000000) : oc.call 140 [.lst false 0 (cts l)] = some (.lst true 3 (cts l),[]) :=
  nil_s rfl (fun h => c1_C l hl (by rintro rfl;exact h rfl)) (fun h => by have : l = [] := (by simpa [cts] using h);subst this;exact c2_C) (fun h => by have : l = [] := (by simpa [cts] using h);subst this;exact c3_C)
def mixN (pl : List Nd) (i : Nat) : List V := nds true 1 (pl.take i) ++ nds false 0 (pl.drop i)
@[simp] theorem mixN_len {pl : List Nd} {i : Nat} : (mixN pl i).length = pl.length := by simp [mixN];omega
theorem mixN_0 {pl : List Nd} : mixN pl 0 = nds false 0 pl := by simp [mixN]
theorem mixN_n {pl : List Nd} : mixN pl pl.length = nds true 1 pl := by simp [mixN]
theorem mix_at {pl : List Nd} {i : Nat} {d : Nd} (h : pl[i]? = some d) : (mixN pl i)[i]? = some (d.v false 0) := by
  unfold mixN
  have hlt := (List.getElem?_eq_some_iff.1 h).1
  rw [List.getElem?_append_right (by simp;omega)]
  simp [nds,h,Nat.min_eq_left (Nat.le_of_lt hlt)]
theorem mix_set {pl : List Nd} {i : Nat} {d : Nd} (h : pl[i]? = some d) : (mixN pl i).set i (d.v true 1) = mixN pl (i + 1) := by
  unfold mixN
  have hlt := (List.getElem?_eq_some_iff.1 h).1
  rw [List.set_append_right _ _ (by simp;omega),List.drop_eq_getElem_cons hlt,List.take_add_one,h]
  have hd : pl[i] = d := by simpa [hlt] using h
  simp [nds,Nat.min_eq_left (Nat.le_of_lt hlt),hd]
theorem l_cp (pl : List Nd) (hp : pl.length < 2000000) (hk : okN pl) : ∀ i : Nat,(i ≤ pl.length) → ∀ s,normE 1 (some [3,8,9,10]) s = ⟨[(3,.ref 1 0 pl.length),(8,.ref 1 0 pl.length),(9,.int .i64 pl.length),(10,.int .i64 i)],[(1,⟨false,false,7,mixN pl i,0⟩)],2⟩ →
 oc.loop 139 3 s = some (.exit 0,⟨[(3,.ref 1 0 pl.length)],[(1,⟨false,false,7,nds true 1 pl,0⟩)],2⟩) := by
 refine loop_ind (σ:=Nat) (fun i => pl.length - i) _ (fun i => ⟨[(3,.ref 1 0 pl.length),(8,.ref 1 0 pl.length),(9,.int .i64 pl.length),(10,.int .i64 i)],[(1,⟨false,false,7,mixN pl i,0⟩)],2⟩) _ ?_
 intro i hi ih s hs
 refine loop_s cd139 rfl rfl hs ?_
 refine wa_ (wc_region (w_ (b_ (h:=wo_nil (e_ (h:=aft_normal (wa_ (?_))))))))
 refine c_ (h1:=?_) (h2:=?_)
 rotate_right 1
 focus
  intro c1
  first
  | exact dn c1
  | (
   have d1 := c1;try simp at d1
   refine wc_exit (?_)
   )
 rotate_right 1
 focus
  intro c1
  first
  | exact dn c1
  | (
   have d1 := c1;try simp at d1
   have hw := wrap_succ (i:=i) (by omega);obtain ⟨d,hx,e1,_⟩ := nds_cut (t:=false) (s:=0) (l:=pl) (i:=i) (by omega);have g2 := mix_at hx;have hs2 : (mixN pl i).set i (V.agg [.int .i64 d.op,.int .i64 d.a,.int .i64 d.b,.int .i64 d.col,.int .i64 d.test,.int .i64 d.value,.lst true 1 (ints d.cells)]) = _ := mix_set hx;have hc := hk d (List.mem_of_getElem? hx)
   refine wc_skip (?_)
   )
 all_goals first
 | refine aft_exit ?_
 | (
  refine aft_normal ?_
  refine wa_ (wc_block (wa_ (wc_region (w_ (m_ (h:=w_ (x_ (h:=w_ (l_ (h:=w_ (al (h:=w_ (a_ (h:=w0 (s_ (h:=wo_nil (e_ (h:=aft_normal (?_)))))))))))))))))))
  refine wc_region (w_ (m_ (h:=w_ (m_ (h:=w_ (f_ (h:=w_ (l_ (h:=w_ (ca (hc:=e_cloneI d.cells hc) (h:=w_ (x_ (h:=w_ (f_ (h:=w0 (?_))))))))))))))))
  refine sR (h:=?_)
  refine wo_nil (e_ (h:=blk_normal (aft_normal (wc_region (w_ (b_ (h:=w_ (m_ (h:=wo_nil (e_ (h:=?_)))))))))))
  )
 all_goals first
 | (refine (ih (i + 1) (by omega) ?_ _ ?_).trans ?_;(focus (first | omega | (simp;done) | (simp;omega)));(focus (simp [normE,hw,hs2];done));(focus (rfl)))
 | (apply end_leaf (ex:=(Ext.exit 0)) 1 (some [3]);(focus (simp [normE];rfl));(focus (obtain rfl : i = pl.length := (by omega);rw [mixN_n])))
theorem e_cp (pl : List Nd) (hp : pl.length < 2000000) (hk : okN pl) : oc.call 139 [.lst false 0 (nds false 0 pl)] = some (.lst true 7 (nds true 1 pl),[]) := by
 refine fun_s rfl cd139 rfl rfl rfl (by simp;rfl) (by simp;rfl) ?_
 refine wa_ (wc_region (w_ (aN (h:=wo_nil (e_ (h:=aft_normal (wa_ (wc_region (w_ (m_ (h:=w_ (ca (hc:=e_cloneN pl hp) (h:=w_ (a_ (h:=wo_nil (e_ (h:=aft_normal (?_))))))))))))))))))
 refine wa_ (wa_ (wc_region (w_ (m_ (h:=w_ (le (h:=w_ (m_ (h:=wo_nil (e_ (h:=aft_normal (wc_block (?_)))))))))))))
 refine wc_loop (l_cp pl hp hk 0 (by omega) _ (by simp [normE,mixN_0])) ?_
 refine blk_exit (aft_normal (wa_ (wc_region (w_ (m_ (h:=w_ (a_ (h:=wo_nil (e_ (h:=aft_normal (wc_ret (?_))))))))))))
 all_goals (refine fin_ (hr:=(res_tmp rfl res_nil)) (h:=?_);(focus (simp)))
theorem l_cpS (pl : List Nd) (hp : pl.length < 2000000) (hk : okN pl) : ∀ i : Nat,(i ≤ pl.length) → ∀ s,normE 1 (some [3,4]) s = ⟨[(3,.ref 1 0 pl.length),(4,.int .i64 i)],[(1,⟨false,false,7,mixN pl i,0⟩)],2⟩ →
 oc.loop 136 3 s = some (.exit 0,⟨[(3,.ref 1 0 pl.length)],[(1,⟨false,false,7,nds true 1 pl,0⟩)],2⟩) := by
 refine loop_ind (σ:=Nat) (fun i => pl.length - i) _ (fun i => ⟨[(3,.ref 1 0 pl.length),(4,.int .i64 i)],[(1,⟨false,false,7,mixN pl i,0⟩)],2⟩) _ ?_
 intro i hi ih s hs
 refine loop_s cd136 rfl rfl hs ?_
 refine wa_ (wa_ (wc_region (w_ (m_ (h:=w_ (m_ (h:=w_ (le (h:=w_ (b_ (h:=wo_nil (e_ (h:=aft_normal (?_))))))))))))))
 refine c_ (h1:=?_) (h2:=?_)
 rotate_right 1
 focus
  intro c1
  first
  | exact dn c1
  | (
   have d1 := c1;try simp at d1
   refine wc_exit (?_)
   )
 rotate_right 1
 focus
  intro c1
  first
  | exact dn c1
  | (
   have d1 := c1;try simp at d1
   have hw := wrap_succ (i:=i) (by omega);obtain ⟨d,hx,e1,_⟩ := nds_cut (t:=false) (s:=0) (l:=pl) (i:=i) (by omega);have g2 := mix_at hx;have hs2 : (mixN pl i).set i (V.agg [.int .i64 d.op,.int .i64 d.a,.int .i64 d.b,.int .i64 d.col,.int .i64 d.test,.int .i64 d.value,.lst true 1 (ints d.cells)]) = _ := mix_set hx;have hc := hk d (List.mem_of_getElem? hx)
   refine wc_skip (?_)
   )
 all_goals first
 | refine aft_exit ?_
 | (
  refine aft_normal ?_
  refine wa_ (wc_block (wc_region (w_ (m_ (h:=w_ (m_ (h:=w_ (bs (h:=w_ (m_ (h:=w_ (m_ (h:=w_ (x_ (h:=w_ (f_ (h:=w_ (l_ (h:=w_ (ap (h:=?_)))))))))))))))))))))
  refine w_ (x_ (h:=w_ (f_ (h:=w0 (?_)))))
  refine sR (h:=?_)
  refine wo_nil (e_ (h:=blk_normal (aft_normal (wc_region (w_ (m_ (h:=w_ (b_ (h:=w_ (a_ (h:=wo_nil (e_ (h:=?_)))))))))))))
  )
 all_goals first
 | (refine (ih (i + 1) (by omega) ?_ _ ?_).trans ?_;(focus (first | omega | (simp;done) | (simp;omega)));(focus (simp [normE,hw,hs2];done));(focus (rfl)))
 | (apply end_leaf (ex:=(Ext.exit 0)) 1 (some [3]);(focus (simp [normE];rfl));(focus (obtain rfl : i = pl.length := (by omega);rw [mixN_n])))
theorem e_cpS (pl : List Nd) (hp : pl.length < 2000000) (hk : okN pl) : oc.call 136 [.lst false 0 (nds false 0 pl)] = some (.lst true 7 (nds true 1 pl),[]) := by
 refine fun_s rfl cd136 rfl rfl rfl (by simp;rfl) (by simp;rfl) ?_
 refine wa_ (wc_region (w_ (aN (h:=wo_nil (e_ (h:=aft_normal (wa_ (wc_region (w_ (bs (h:=w_ (m_ (h:=w_ (ap (h:=w_ (a_ (h:=wo_nil (e_ (h:=?_)))))))))))))))))))
 refine aft_normal (wa_ (wa_ (wc_region (w_ (a_ (h:=wo_nil (e_ (h:=aft_normal (wc_block (?_))))))))))
 refine wc_loop (l_cpS pl hp hk 0 (by omega) _ (by simp [normE,mixN_0])) ?_
 refine blk_exit (aft_normal (wa_ (wc_region (w_ (m_ (h:=w_ (a_ (h:=wo_nil (e_ (h:=aft_normal (wc_ret (?_))))))))))))
 all_goals (refine fin_ (hr:=(res_tmp rfl res_nil)) (h:=?_);(focus (simp)))
def wk0 (pl : List Nd) (L : List Ct) : Wk := ⟨[],L,List.replicate pl.length ⟨[],[],[],0⟩,0,0,[],false⟩
theorem rep_snoc {α : Type} {n : Nat} {x : α} : List.replicate n x ++ [x] = List.replicate (n + 1) x := by
  rw [List.replicate_succ']
theorem wk_fold {pl : List Nd} {L : List Ct} {i : Nat} : wks true (List.replicate i (wk0 pl L)) ++ [V.agg [.lst true 6 [],.lst true 3 (cts L),.lst true 4 (List.replicate pl.length (V.agg [.lst true 2 [],.lst true 2 [],.lst true 3 [],.int .i64 0])),.int .i64 0,.int .i64 0,.lst true 3 [],.bool false]] = wks true (List.replicate (i + 1) (wk0 pl L)) := by
  rw [hds_zero,← rep_snoc]
  simp [wks,wk0,Wk.v]
abbrev clZ : V := .agg [.int .i64 0,.agg [.lst true 7 [],.lst true 7 [],.lst true 1 []]]
theorem l_nc (pl : List Nd) (L : List Ct) (w q : Nat) (hp : pl.length < 2000000) (hL : L.length < 2000000) (hw0 : w ≤ 3) : ∀ i : Nat,(1 ≤ i ∧ i ≤ w) → ∀ s,normE 2 (some [0,4,5,6,23,24]) s = ⟨[(0,.lst false 0 (nds false 0 pl)),(4,.ptr 2 0 []),(5,.ptr 3 0 []),(6,.ptr 4 0 []),(23,.int .i64 w),(24,.int .i64 i)],[(2,⟨true,false,4,[clZ],0⟩),(3,⟨true,false,2,[.agg [.int .i64 0,.ref 5 0 L.length]],0⟩),(4,⟨true,false,3,[.agg [.ref 6 0 pl.length,.ref 7 0 i,.ref 8 0 q]],0⟩),(5,⟨false,false,3,cts L,0⟩),(6,⟨false,false,7,nds true 1 pl,0⟩),(7,⟨false,false,7,wks true (List.replicate i (wk0 pl L)),0⟩),(8,⟨false,false,1,frss true (List.replicate q []),0⟩)],9⟩ →
 oc.loop 64 6 s = some (.exit 0,⟨[(4,.ptr 2 0 []),(6,.ptr 3 0 [])],[(2,⟨true,false,4,[clZ],0⟩),(3,⟨true,false,3,[.agg [.ref 4 0 pl.length,.ref 5 0 w,.ref 6 0 q]],0⟩),(4,⟨false,false,7,nds true 1 pl,0⟩),(5,⟨false,false,7,wks true (List.replicate w (wk0 pl L)),0⟩),(6,⟨false,false,1,frss true (List.replicate q []),0⟩)],7⟩) := by
 refine loop_ind (σ:=Nat) (fun i => w - i) _ (fun i => ⟨[(0,.lst false 0 (nds false 0 pl)),(4,.ptr 2 0 []),(5,.ptr 3 0 []),(6,.ptr 4 0 []),(23,.int .i64 w),(24,.int .i64 i)],[(2,⟨true,false,4,[clZ],0⟩),(3,⟨true,false,2,[.agg [.int .i64 0,.ref 5 0 L.length]],0⟩),(4,⟨true,false,3,[.agg [.ref 6 0 pl.length,.ref 7 0 i,.ref 8 0 q]],0⟩),(5,⟨false,false,3,cts L,0⟩),(6,⟨false,false,7,nds true 1 pl,0⟩),(7,⟨false,false,7,wks true (List.replicate i (wk0 pl L)),0⟩),(8,⟨false,false,1,frss true (List.replicate q []),0⟩)],9⟩) _ ?_
 intro i hi ih s hs
 refine loop_s cd64 rfl rfl hs ?_
 obtain ⟨hi1,hi2⟩ := hi
 refine wa_ (wc_region (w_ (b_ (h:=wo_nil (e_ (h:=aft_normal (wa_ (?_))))))))
 refine c_ (h1:=?_) (h2:=?_)
 rotate_right 1
 focus
  intro c1
  first
  | exact dn c1
  | (
   have d1 := c1;try simp at d1
   refine wc_exit (?_)
   )
 rotate_right 1
 focus
  intro c1
  first
  | exact dn c1
  | (
   have d1 := c1;try simp at d1
   have hw := wrap_succ (i:=i) (by omega)
   refine wc_skip (?_)
   )
 all_goals first
 | refine aft_exit ?_
 | (
  refine aft_normal ?_
  refine wa_ (wc_block (wc_draw (y_ (f_ (h:=ax_ (h:=y_ (l_ (h:=ax_ (h:=y_ (f_ (h:=ax_ (h:=y_ (l_ (h:=ax_ (h:=y_ (ca (hc:=e_cloneC L hL) (h:=ax_ (h:=y_ (m_ (h:=ax_ (h:=y_ (le (h:=ax_ (h:=y_ (mk (h:=ax_ (h:=y_ (bd (h:=ax_ (h:=?_))))))))))))))))))))))))))))))
  refine y_ (bs (h:=ax_ (h:=y_ (ap (h:=ax_ (h:=y_ (f_ (h:=ax_ (h:=y0 (s_ (h:=ax_ (h:=wo_nil (ed (h:=blk_normal (aft_normal (wc_region (w_ (b_ (h:=w_ (m_ (h:=wo_nil (e_ (h:=?_)))))))))))))))))))))))
  )
 all_goals first
 | (refine (ih (i + 1) (⟨by omega,by omega⟩) ?_ _ ?_).trans ?_;(focus (first | omega | (simp;done) | (simp;omega)));(focus (simp [normE,hw,wk_fold];done));(focus (rfl)))
 | (apply end_leaf (ex:=(Ext.exit 0)) 2 (some [4,6]);(focus (simp [normE];rfl));(focus (obtain rfl : i = w := (by omega);rfl)))
theorem wk_one {pl : List Nd} {L : List Ct} : V.agg [.lst true 6 [],.lst true 3 (cts L),.lst true 4 (List.replicate pl.length (V.agg [.lst true 2 [],.lst true 2 [],.lst true 3 [],.int .i64 0])),.int .i64 0,.int .i64 0,.lst true 3 [],.bool false] = (wk0 pl L).v true := by
  rw [hds_zero];rfl
theorem nc0 (pl : List Nd) (L : List Ct) (w q : Nat) (hp : pl.length < 2000000) (hL : L.length < 2000000) (hw0 : w ≤ 3) (hw1 : 1 ≤ w) : ∀ s,normE 2 (some [0,4,5,6,23,24]) s = ⟨[(0,.lst false 0 (nds false 0 pl)),(4,.ptr 2 0 []),(5,.ptr 3 0 []),(6,.ptr 4 0 []),(23,.int .i64 w),(24,.int .i64 0)],[(2,⟨true,false,4,[clZ],0⟩),(3,⟨true,false,2,[.agg [.int .i64 0,.ref 5 0 L.length]],0⟩),(4,⟨true,false,3,[.agg [.ref 6 0 pl.length,.lst true 7 [],.ref 7 0 q]],0⟩),(5,⟨false,false,3,cts L,0⟩),(6,⟨false,false,7,nds true 1 pl,0⟩),(7,⟨false,false,1,frss true (List.replicate q []),0⟩)],8⟩ →
 oc.loop 64 6 s = some (.exit 0,⟨[(4,.ptr 2 0 []),(6,.ptr 3 0 [])],[(2,⟨true,false,4,[clZ],0⟩),(3,⟨true,false,3,[.agg [.ref 4 0 pl.length,.ref 5 0 w,.ref 6 0 q]],0⟩),(4,⟨false,false,7,nds true 1 pl,0⟩),(5,⟨false,false,7,wks true (List.replicate w (wk0 pl L)),0⟩),(6,⟨false,false,1,frss true (List.replicate q []),0⟩)],7⟩) := by
 intro s hs
 have hw : IntKind.i64.wrap (0 + 1) = 1 := by decide
 have hwb : IntKind.i64.wrap 1 = 1 := by decide
 refine loop_s cd64 rfl rfl hs ?_
 refine wa_ (wc_region (w_ (b_ (h:=wo_nil (e_ (h:=aft_normal (wa_ (?_))))))))
 refine c_ (h1:=?_) (h2:=?_)
 rotate_right 1
 focus
  intro c1
  first
  | exact dn c1
  | (
   have d1 := c1;try simp at d1
   exfalso;rw [decide_eq_false_iff_not] at c1;omega
   )
 rotate_right 1
 focus
  intro c1
  first
  | exact dn c1
  | (
   have d1 := c1;try simp at d1
   refine wc_skip (?_)
   )
 all_goals first
 | refine aft_exit ?_
 | (
  refine aft_normal ?_
  refine wa_ (wc_block (wc_draw (y_ (f_ (h:=ax_ (h:=y_ (l_ (h:=ax_ (h:=y_ (f_ (h:=ax_ (h:=y_ (l_ (h:=ax_ (h:=y_ (ca (hc:=e_cloneC L hL) (h:=ax_ (h:=y_ (m_ (h:=ax_ (h:=y_ (le (h:=ax_ (h:=y_ (mk (h:=ax_ (h:=y_ (bd (h:=ax_ (h:=?_))))))))))))))))))))))))))))))
  refine y_ (bs (h:=ax_ (h:=y_ (ap (h:=ax_ (h:=y_ (f_ (h:=ax_ (h:=y0 (s_ (h:=ax_ (h:=wo_nil (ed (h:=blk_normal (aft_normal (wc_region (w_ (b_ (h:=w_ (m_ (h:=wo_nil (e_ (h:=?_)))))))))))))))))))))))
  )
 all_goals (refine (l_nc pl L w q hp hL hw0 1 ⟨by omega,by omega⟩ _ ?_).trans rfl;(simp [normE,hw,hwb,wk_one];done))
def newC (pl : List Nd) (L : List Ct) (w : Nat) : Cl := ⟨pl,List.replicate w (wk0 pl L),List.replicate (w * w) []⟩
def newN (pl : List Nd) (w : Int) : Int × Cl := if (firstN pl w).1 = 0 then (0,newC pl (firstN pl w).2 w.toNat) else ((firstN pl w).1,⟨[],[],[]⟩)
theorem firstN_zero {pl : List Nd} {w : Int} (h : (firstN pl w).1 = 0) : (lookN pl).2 = 0 ∧ 1 ≤ w ∧ w ≤ 3 ∧ (firstN pl w).2 = (nodesR 1 0 pl).map (firstC w) := by
  unfold firstN at h ⊢
  split at h
  · rename_i h0;exact absurd h h0
  · rename_i h0
    split at h
    · rename_i h1
      rw [if_neg h0,if_pos h1]
      simp [inI] at h1
      exact ⟨by simpa using h0,by omega,by omega,rfl⟩
    · cases h
theorem e_newI (pl : List Nd) (w : Int) (hp : pl.length < 2000000) (hk : okN pl) : oc.call 64 [.lst false 0 (nds false 0 pl),.int .i64 w] = some (.agg [.int .i64 (newN pl w).1,(newN pl w).2.v true],[]) := by
 refine fun_s rfl cd64 rfl rfl rfl (by simp;rfl) (by simp;rfl) ?_
 refine wa_ (wc_region (w_ (al (h:=wo_nil (e_ (h:=aft_normal (wa_ (wc_region (w_ (m_ (h:=w_ (m_ (h:=w_ (ca (hc:=e_firstNI pl w hp hk) (h:=w_ (al (h:=w0 (s_ (h:=?_)))))))))))))))))))
 refine wo_nil (e_ (h:=aft_normal (wa_ (wa_ (wc_region (w_ (f_ (h:=w_ (l_ (h:=w_ (bE (h:=wo_nil (e_ (h:=aft_normal (?_)))))))))))))))
 refine c_ (h1:=?_) (h2:=?_)
 rotate_right 1
 focus
  intro c1
  first
  | exact dn c1
  | (
   have d1 := c1;try simp at d1
   obtain ⟨q1,q2,q3,q4⟩ := firstN_zero d1;obtain ⟨W,rfl⟩ : ∃ W : Nat,w = W := ⟨w.toNat,by omega⟩;have hL : (firstN pl W).2.length < 2000000 := (by rw [q4];have := nodesR_len (op:=1) (l:=pl) (i:=0);simp;omega);have hsq : W * W ≤ 9 := Nat.le_trans (Nat.mul_le_mul (show W ≤ 3 by omega) (show W ≤ 3 by omega)) (by omega);have hww : IntKind.i64.wrap ((W : Int) * W) = ((W * W : Nat) : Int) := (by rw [wrap_id (by push_cast at *;omega) (by push_cast at *;omega)];push_cast;rfl);have hto : ((W : Int) * W).toNat = W * W := (by rw [← Int.natCast_mul];exact Int.toNat_natCast _);clear q4
   refine wc_skip (?_)
   )
 rotate_right 1
 focus
  intro c1
  first
  | exact dn c1
  | (
   have d1 := c1;try simp at d1
   refine wa_ (wc_region (w_ (f_ (h:=w_ (l_ (h:=w_ (bd (h:=w0 (s_ (h:=wo_nil (e_ (h:=aft_normal (wc_ret (?_))))))))))))))
   )
 all_goals first
 | refine aft_ret ?_
 | (
  refine aft_normal ?_
  refine wa_ (wc_draw (y_ (m_ (h:=ax_ (h:=y_ (ca (hc:=e_cp pl hp hk) (h:=ax_ (h:=y_ (m_ (h:=ax_ (h:=y_ (m_ (h:=ax_ (h:=y_ (b_ (h:=ax_ (h:=y_ (mk (h:=ax_ (h:=y_ (bd (h:=ax_ (h:=y_ (al (h:=ax_ (h:=y0 (s_ (h:=ax_ (h:=wo_nil (ed (h:=?_)))))))))))))))))))))))))))))))
  refine aft_normal (wa_ (wa_ (wc_region (w_ (m_ (h:=w_ (m_ (h:=wo_nil (e_ (h:=aft_normal (wc_block (?_))))))))))))
  refine wc_loop (nc0 pl (firstN pl W).2 W (W * W) hp hL (by omega) (by omega) _ (by simp [normE,hww,hto,frss_zero,d1])) ?_
  refine blk_exit (aft_normal (wa_ (wc_region (w_ (l_ (h:=w_ (bd (h:=w0 (s_ (h:=wo_nil (e_ (h:=aft_normal (wc_ret (?_))))))))))))))
  )
 all_goals (refine fin_ (hr:=(res_cell (tys_ok.zero _ _ rfl) rfl (by simp;rfl) (by rfl) res_nil)) (h:=?_);(focus (clear hk;first | (simp [newN,newC,Cl.v,d1];done) | (simp [newN,d1,Cl.v];done))))
theorem l_ncS (pl : List Nd) (L : List Ct) (w q : Nat) (hp : pl.length < 2000000) (hF : oc.call 137 [.lst false 0 (nds false 0 pl),.int .i64 w] = some (.lst true 3 (cts L),[])) (hw0 : w ≤ 3) : ∀ i : Nat,(1 ≤ i ∧ i ≤ w) → ∀ s,normE 2 (some [0,1,4,6,7]) s = ⟨[(0,.lst false 0 (nds false 0 pl)),(1,.int .i64 w),(4,.ptr 2 0 []),(6,.ptr 3 0 []),(7,.int .i64 i)],[(2,⟨true,false,4,[clZ],0⟩),(3,⟨true,false,3,[.agg [.ref 4 0 pl.length,.ref 5 0 i,.ref 6 0 q]],0⟩),(4,⟨false,false,7,nds true 1 pl,0⟩),(5,⟨false,false,7,wks true (List.replicate i (wk0 pl L)),0⟩),(6,⟨false,false,1,frss true (List.replicate q []),0⟩)],7⟩ →
 oc.loop 63 8 s = some (.exit 0,⟨[(4,.ptr 2 0 []),(6,.ptr 3 0 [])],[(2,⟨true,false,4,[clZ],0⟩),(3,⟨true,false,3,[.agg [.ref 4 0 pl.length,.ref 5 0 w,.ref 6 0 q]],0⟩),(4,⟨false,false,7,nds true 1 pl,0⟩),(5,⟨false,false,7,wks true (List.replicate w (wk0 pl L)),0⟩),(6,⟨false,false,1,frss true (List.replicate q []),0⟩)],7⟩) := by
 refine loop_ind (σ:=Nat) (fun i => w - i) _ (fun i => ⟨[(0,.lst false 0 (nds false 0 pl)),(1,.int .i64 w),(4,.ptr 2 0 []),(6,.ptr 3 0 []),(7,.int .i64 i)],[(2,⟨true,false,4,[clZ],0⟩),(3,⟨true,false,3,[.agg [.ref 4 0 pl.length,.ref 5 0 i,.ref 6 0 q]],0⟩),(4,⟨false,false,7,nds true 1 pl,0⟩),(5,⟨false,false,7,wks true (List.replicate i (wk0 pl L)),0⟩),(6,⟨false,false,1,frss true (List.replicate q []),0⟩)],7⟩) _ ?_
 intro i hi ih s hs
 refine loop_s cd63 rfl rfl hs ?_
 obtain ⟨hi1,hi2⟩ := hi
 refine wa_ (wa_ (wc_region (w_ (m_ (h:=w_ (m_ (h:=w_ (b_ (h:=wo_nil (e_ (h:=aft_normal (?_))))))))))))
 refine c_ (h1:=?_) (h2:=?_)
 rotate_right 1
 focus
  intro c1
  first
  | exact dn c1
  | (
   have d1 := c1;try simp at d1
   refine wc_exit (?_)
   )
 rotate_right 1
 focus
  intro c1
  first
  | exact dn c1
  | (
   have d1 := c1;try simp at d1
   have hw := wrap_succ (i:=i) (by omega)
   refine wc_skip (?_)
   )
 all_goals first
 | refine aft_exit ?_
 | (
  refine aft_normal ?_
  refine wa_ (wc_block (wc_draw (y_ (f_ (h:=ax_ (h:=y_ (l_ (h:=ax_ (h:=y_ (m_ (h:=ax_ (h:=y_ (m_ (h:=ax_ (h:=y_ (ca (hc:=hF) (h:=ax_ (h:=y_ (m_ (h:=ax_ (h:=y_ (le (h:=ax_ (h:=y_ (mk (h:=ax_ (h:=y_ (bd (h:=ax_ (h:=?_))))))))))))))))))))))))))))))
  refine y_ (bs (h:=ax_ (h:=y_ (ap (h:=ax_ (h:=y_ (f_ (h:=ax_ (h:=y0 (s_ (h:=ax_ (h:=wo_nil (ed (h:=blk_normal (aft_normal (wc_region (w_ (m_ (h:=w_ (b_ (h:=w_ (a_ (h:=wo_nil (e_ (h:=?_)))))))))))))))))))))))))
  )
 all_goals first
 | (refine (ih (i + 1) (⟨by omega,by omega⟩) ?_ _ ?_).trans ?_;(focus (first | omega | (simp;done) | (simp;omega)));(focus (simp [normE,hw,wk_fold];done));(focus (rfl)))
 | (apply end_leaf (ex:=(Ext.exit 0)) 2 (some [4,6]);(focus (simp [normE];rfl));(focus (obtain rfl : i = w := (by omega);rfl)))
theorem ncS0 (pl : List Nd) (L : List Ct) (w q : Nat) (hp : pl.length < 2000000) (hF : oc.call 137 [.lst false 0 (nds false 0 pl),.int .i64 w] = some (.lst true 3 (cts L),[])) (hw0 : w ≤ 3) (hw1 : 1 ≤ w) : ∀ s,normE 2 (some [0,1,4,6,7]) s = ⟨[(0,.lst false 0 (nds false 0 pl)),(1,.int .i64 w),(4,.ptr 2 0 []),(6,.ptr 3 0 []),(7,.int .i64 0)],[(2,⟨true,false,4,[clZ],0⟩),(3,⟨true,false,3,[.agg [.ref 4 0 pl.length,.lst true 7 [],.ref 5 0 q]],0⟩),(4,⟨false,false,7,nds true 1 pl,0⟩),(5,⟨false,false,1,frss true (List.replicate q []),0⟩)],6⟩ →
 oc.loop 63 8 s = some (.exit 0,⟨[(4,.ptr 2 0 []),(6,.ptr 3 0 [])],[(2,⟨true,false,4,[clZ],0⟩),(3,⟨true,false,3,[.agg [.ref 4 0 pl.length,.ref 5 0 w,.ref 6 0 q]],0⟩),(4,⟨false,false,7,nds true 1 pl,0⟩),(5,⟨false,false,7,wks true (List.replicate w (wk0 pl L)),0⟩),(6,⟨false,false,1,frss true (List.replicate q []),0⟩)],7⟩) := by
 intro s hs
 have hw : IntKind.i64.wrap (0 + 1) = 1 := by decide
 have hwb : IntKind.i64.wrap 1 = 1 := by decide
 refine loop_s cd63 rfl rfl hs ?_
 refine wa_ (wa_ (wc_region (w_ (m_ (h:=w_ (m_ (h:=w_ (b_ (h:=wo_nil (e_ (h:=aft_normal (?_))))))))))))
 refine c_ (h1:=?_) (h2:=?_)
 rotate_right 1
 focus
  intro c1
  first
  | exact dn c1
  | (
   have d1 := c1;try simp at d1
   exfalso;rw [decide_eq_false_iff_not] at c1;omega
   )
 rotate_right 1
 focus
  intro c1
  first
  | exact dn c1
  | (
   have d1 := c1;try simp at d1
   refine wc_skip (?_)
   )
 all_goals first
 | refine aft_exit ?_
 | (
  refine aft_normal ?_
  refine wa_ (wc_block (wc_draw (y_ (f_ (h:=ax_ (h:=y_ (l_ (h:=ax_ (h:=y_ (m_ (h:=ax_ (h:=y_ (m_ (h:=ax_ (h:=y_ (ca (hc:=hF) (h:=ax_ (h:=y_ (m_ (h:=ax_ (h:=y_ (le (h:=ax_ (h:=y_ (mk (h:=ax_ (h:=y_ (bd (h:=ax_ (h:=?_))))))))))))))))))))))))))))))
  refine y_ (bs (h:=ax_ (h:=y_ (ap (h:=ax_ (h:=y_ (f_ (h:=ax_ (h:=y0 (s_ (h:=ax_ (h:=wo_nil (ed (h:=blk_normal (aft_normal (wc_region (w_ (m_ (h:=w_ (b_ (h:=w_ (a_ (h:=wo_nil (e_ (h:=?_)))))))))))))))))))))))))
  )
 all_goals (refine (l_ncS pl L w q hp hF hw0 1 ⟨by omega,by omega⟩ _ ?_).trans rfl;(simp [normE,hw,hwb,wk_one];done))
theorem e_newS (pl : List Nd) (w : Int) (hp : pl.length < 2000000) (hk : okN pl) : oc.call 63 [.lst false 0 (nds false 0 pl),.int .i64 w] = some (.agg [.int .i64 (newN pl w).1,(newN pl w).2.v true],[]) := by
 refine fun_s rfl cd63 rfl rfl rfl (by simp;rfl) (by simp;rfl) ?_
 refine wa_ (wc_region (w_ (al (h:=wo_nil (e_ (h:=aft_normal (wa_ (wa_ (wc_region (w_ (m_ (h:=w_ (ca (hc:=e_planS pl hp hk) (h:=w_ (a_ (h:=wo_nil (e_ (h:=?_))))))))))))))))))
 refine aft_normal (wa_ (wc_region (w_ (m_ (h:=w_ (bE (h:=wo_nil (e_ (h:=aft_normal (?_))))))))))
 refine c_ (h1:=?_) (h2:=?_)
 rotate_right 1
 focus
  intro c1
  first
  | exact dn c1
  | (
   have d1 := c1;try simp at d1
   refine wc_skip (?_)
   )
 rotate_right 1
 focus
  intro c1
  first
  | exact dn c1
  | (
   have d1 := c1;try simp at d1
   refine wa_ (wc_region (w_ (m_ (h:=w_ (bd (h:=w0 (s_ (h:=wo_nil (e_ (h:=aft_normal (wc_ret (?_))))))))))))
   )
 all_goals first
 | refine aft_ret ?_
 | (
  refine aft_normal ?_
  refine wa_ (wa_ (wc_region (w_ (m_ (h:=w_ (ca (hc:=e_l1In _ _ _) (h:=w_ (u_ (h:=wo_nil (e_ (h:=aft_normal (?_))))))))))))
  refine c_ (h1:=?_) (h2:=?_)
  rotate_right 1
  focus
   intro c2
   first
   | exact dn c2
   | (
    have d2 := c2;try simp at d2
    obtain ⟨r1,r2⟩ : 1 ≤ w ∧ w ≤ 3 := (by simp [inI] at d2;omega);obtain ⟨W,rfl⟩ : ∃ W : Nat,w = W := ⟨w.toNat,by omega⟩;have hF := e_firstS pl W hp;have hsq : W * W ≤ 9 := Nat.le_trans (Nat.mul_le_mul (show W ≤ 3 by omega) (show W ≤ 3 by omega)) (by omega);have hww : IntKind.i64.wrap ((W : Int) * W) = ((W * W : Nat) : Int) := (by rw [wrap_id (by push_cast at *;omega) (by push_cast at *;omega)];push_cast;rfl);have hto : ((W : Int) * W).toNat = W * W := (by rw [← Int.natCast_mul];exact Int.toNat_natCast _);have hfn : firstN pl W = (0,(nodesR 1 0 pl).map (firstC W)) := (by unfold firstN;rw [if_neg (by simp [d1]),if_pos (by simpa using d2)])
    refine wc_skip (?_)
    )
  rotate_right 1
  focus
   intro c2
   first
   | exact dn c2
   | (
    have d2 := c2;try simp at d2
    refine wa_ (wc_region (w_ (bd (h:=w0 (s_ (h:=wo_nil (e_ (h:=aft_normal (wc_ret (?_))))))))))
    )
  all_goals first
  | refine aft_ret ?_
  | (
   refine aft_normal ?_
   refine wa_ (wc_draw (y_ (m_ (h:=ax_ (h:=y_ (ca (hc:=e_cpS pl hp hk) (h:=ax_ (h:=y_ (m_ (h:=ax_ (h:=y_ (m_ (h:=ax_ (h:=y_ (b_ (h:=ax_ (h:=y_ (mk (h:=ax_ (h:=y_ (bd (h:=ax_ (h:=y_ (al (h:=ax_ (h:=y0 (s_ (h:=ax_ (h:=wo_nil (ed (h:=?_)))))))))))))))))))))))))))))))
   refine aft_normal (wa_ (wa_ (wc_region (w_ (a_ (h:=wo_nil (e_ (h:=aft_normal (wc_block (?_))))))))))
   refine wc_loop (ncS0 pl ((nodesR 1 0 pl).map (firstC W)) W (W * W) hp hF (by omega) (by omega) _ (by simp [normE,hww,hto,frss_zero,d1])) ?_
   refine blk_exit (aft_normal (wa_ (wc_region (w_ (l_ (h:=w_ (bd (h:=w0 (s_ (h:=wo_nil (e_ (h:=aft_normal (wc_ret (?_))))))))))))))
   )
  )
 all_goals (refine fin_ (hr:=(res_cell (tys_ok.zero _ _ rfl) rfl (by simp;rfl) (by rfl) res_nil)) (h:=?_);(focus (clear hk;first | (simp [newN,newC,Cl.v,hfn];done) | (simp [newN,firstN,d1,d2,Cl.v];done) | (simp [newN,firstN,d1,Cl.v];done))))
end Go.Proofs.Ytgkbmiaimjpbfaa.Ev
namespace Go.Proofs.Ytgkbmiaimjpbfaa.Ev
open Go
set_option maxRecDepth 100000
set_option linter.unusedSimpArgs false
set_option linter.unusedVariables false
set_option maxHeartbeats 2000000
theorem look_lenC {pl : List Nd} (h : (lookN pl).2 = 0) : pl.length ≤ 8 := by
  unfold lookN at h
  split at h
  · cases h
  · rename_i h1;simp [inI] at h1;omega
theorem wS_leN {α : Type} {f : α → Nat} {c : Nat} {l : List α} (h : ∀ x ∈ l,f x ≤ c) : wS f l ≤ l.length * c := by
  induction l with
  | nil => simp
  | cons x l ih =>
    have h1 := h x (List.mem_cons_self ..)
    have h2 := ih fun y hy => h y (List.mem_cons_of_mem _ hy)
    rw [wS_cons,List.length_cons,Nat.add_mul];omega
theorem wS_rep {α : Type} {f : α → Nat} {n : Nat} {x : α} : wS f (List.replicate n x) = n * f x := by
  induction n with
  | zero => simp
  | succ n ih => rw [List.replicate_succ,wS_cons,ih,Nat.succ_mul];omega
theorem cn_NdsN {l : List Nd} (hp : l.length < 2000000) (hk : okN l) : cn_Nds l < 5000000000000 := by
  have h1 : cn_Nds l ≤ l.length * 2000006 := wS_leN (f:=cn_Nd) (fun x hx => by have := hk x hx;unfold cn_Nd;omega)
  have h2 : l.length * 2000006 ≤ 2000000 * 2000006 := Nat.mul_le_mul_right _ (by omega)
  omega
theorem wk0_w {pl : List Nd} {L : List Ct} : w_Wk (wk0 pl L) = L.length + pl.length := by
  simp [w_Wk,wk0,w_Frs,w_Hds,w_Rls,wS_rep,w_Hd,w_Ets,w_Bts]
theorem wk0_cn {pl : List Nd} {L : List Ct} : cn_Wk (wk0 pl L) = 3 * L.length + pl.length + 3 := by
  have h : cn_Cts L = 3 * L.length := by
    unfold cn_Cts
    induction L with
    | nil => rfl
    | cons x l ih => rw [wS_cons,ih,List.length_cons];simp [cn_Ct];omega
  simp [cn_Wk,wk0,cn_Frs,cn_Hds,cn_Rls,wS_rep,cn_Hd,cn_Ets,cn_Bts,h]
theorem newN_ok {pl : List Nd} {w : Int} (hp : pl.length < 2000000) (hk : okN pl) : (newN pl w).2.plan.length < 2000000 ∧ okN (newN pl w).2.plan ∧ w_Wks (newN pl w).2.workers < 2000000 ∧ w_Frss (newN pl w).2.links < 2000000 ∧ cn_Cl (newN pl w).2 < 10000000000000 ∧ (newN pl w).2.links.length < 2000000 ∧ cn_Nds (newN pl w).2.plan + cn_Wks (newN pl w).2.workers + cn_Frss (newN pl w).2.links = cn_Cl (newN pl w).2 := by
  unfold newN
  split
  · rename_i h0
    obtain ⟨q1,q2,q3,q4⟩ := firstN_zero h0
    have h8 := look_lenC q1
    obtain ⟨W,rfl⟩ : ∃ W : Nat,w = W := ⟨w.toNat,by omega⟩
    have hL : (firstN pl W).2.length ≤ 8 := by
      rw [q4];have := nodesR_len (op:=1) (l:=pl) (i:=0);simp;omega
    have hsq : W * W ≤ 9 := Nat.le_trans (Nat.mul_le_mul (show W ≤ 3 by omega) (show W ≤ 3 by omega)) (by omega)
    generalize (firstN pl W).2 = L at hL
    have e1 : w_Wks (newC pl L W).workers = W + W * (L.length + pl.length) := by
      simp [newC,w_Wks,wS_rep,wk0_w]
    have e2 : cn_Wks (newC pl L W).workers = W * (3 * L.length + pl.length + 3) := by
      simp [newC,cn_Wks,wS_rep,wk0_cn]
    have e3 : w_Frss (newC pl L W).links = W * W := by
      simp [newC,w_Frss,wS_rep,w_Frs]
    have e4 : cn_Frss (newC pl L W).links = 0 := by
      simp [newC,cn_Frss,wS_rep,cn_Frs]
    have m1 : W * (L.length + pl.length) ≤ 3 * 16 := Nat.mul_le_mul (by omega) (by omega)
    have m2 : W * (3 * L.length + pl.length + 3) ≤ 3 * 35 := Nat.mul_le_mul (by omega) (by omega)
    have hn := cn_NdsN hp hk
    refine ⟨hp,hk,?_,?_,?_,?_,rfl⟩
    · show w_Wks (newC pl L W).workers < 2000000
      omega
    · show w_Frss (newC pl L W).links < 2000000
      omega
    · show cn_Nds pl + cn_Wks (newC pl L W).workers + cn_Frss (newC pl L W).links < _
      omega
    · show (List.replicate (W * W) _).length < _
      rw [List.length_replicate];omega
  · refine ⟨by simp,fun d hd => (nomatch hd),(by decide : w_Wks [] < 2000000),(by decide : w_Frss [] < 2000000),(by decide : cn_Cl ⟨[],[],[]⟩ < 10000000000000),by simp,rfl⟩
theorem law_new (pl : List Nd) (w : Int) (ho : okB pl) : oc.call 11 [.lst false 0 (nds false 0 pl),.int .i64 w] = some (.bool true,[]) := by
 refine fun_s rfl cd11 rfl rfl rfl (by simp;rfl) (by simp;rfl) ?_
 refine wa_ (wc_region (w_ (a_ (h:=wo_nil (e_ (h:=aft_normal (wa_ (wc_region (w_ (a_ (h:=wo_nil (e_ (h:=aft_normal (wa_ (wc_region (?_))))))))))))))))
 refine w_ (m_ (h:=w_ (m_ (h:=w_ (ca (hc:=e_szNS pl 0 1048576 ho (by omega) (by omega)) (h:=w_ (a_ (h:=wo_nil (e_ (h:=aft_normal (wa_ (wa_ (wc_region (w_ (m_ (h:=w_ (b_ (h:=wo_nil (e_ (h:=?_))))))))))))))))))))
 refine aft_normal (?_)
 refine c_ (h1:=?_) (h2:=?_)
 rotate_right 1
 focus
  intro c1
  first
  | exact dn c1
  | (
   have d1 := c1;try simp at d1
   obtain ⟨h1,h2,h3⟩ := szP_ok (l:=pl) (a:=1048576) (by omega) (by omega);have hn := cn_NdsN h1 h2;obtain ⟨p1,p2,p3,p4,p5,p6,p7⟩ := newN_ok (w:=w) h1 h2
   refine wc_skip (?_)
   )
 rotate_right 1
 focus
  intro c1
  first
  | exact dn c1
  | (
   have d1 := c1;try simp at d1
   refine wa_ (wc_region (w_ (a_ (h:=wo_nil (e_ (h:=aft_normal (wc_ret (?_))))))))
   )
 all_goals first
 | refine aft_ret ?_
 | (
  refine aft_normal ?_
  refine wa_ (wc_region (w_ (m_ (h:=w_ (ca (hc:=e_toNS pl 0 h1 h2) (h:=w_ (m_ (h:=w_ (ca (hc:=e_newS pl w h1 h2) (h:=w_ (al (h:=w0 (s_ (h:=wo_nil (e_ (h:=aft_normal (wa_ (wc_region (?_)))))))))))))))))))
  refine w_ (m_ (h:=w_ (ca (hc:=e_toNS pl 0 h1 h2) (h:=w_ (a_ (h:=wo_nil (e_ (h:=aft_normal (wa_ (wc_region (w_ (m_ (h:=w_ (m_ (h:=w_ (ca (hc:=e_newI pl w h1 h2) (h:=w_ (al (h:=w0 (s_ (h:=?_)))))))))))))))))))))
  refine wo_nil (e_ (h:=aft_normal (wa_ (wa_ (wc_region (w_ (l_ (h:=w_ (l_ (h:=w_ (ca (hc:=e_eqClr (newN pl w).1 (newN pl w).2 p1 p2 p3 p4) (h:=w_ (u_ (h:=wo_nil (e_ (h:=aft_normal (?_)))))))))))))))))
  refine c_ (h1:=?_) (h2:=?_)
  rotate_right 1
  focus
   intro c2
   first
   | exact dn c2
   | (
    have d2 := c2;try simp at d2
    refine wc_skip (?_)
    )
  rotate_right 1
  focus
   intro c2
   first
   | exact dn c2
   | (
    have d2 := c2;try simp at d2
    refine wa_ (wc_region (w_ (a_ (h:=wo_nil (e_ (h:=aft_normal (wc_ret (?_))))))))
    )
  all_goals first
  | refine aft_ret ?_
  | (
   refine aft_normal ?_
   refine wa_ (wa_ (wc_region (w_ (m_ (h:=w_ (m_ (h:=w_ (ca (hc:=e_toNS pl 0 h1 h2) (h:=w_ (ca (hc:=e_eqNS pl pl 0 0 h1 h1 h2 h2) (h:=w_ (u_ (h:=wo_nil (e_ (h:=aft_normal (?_))))))))))))))))
   refine c_ (h1:=?_) (h2:=?_)
   rotate_right 1
   focus
    intro c3
    first
    | exact dn c3
    | (
     have d3 := c3;try simp at d3
     refine wc_skip (?_)
     )
   rotate_right 1
   focus
    intro c3
    first
    | exact dn c3
    | (
     have d3 := c3;try simp at d3
     refine wa_ (wc_region (w_ (a_ (h:=wo_nil (e_ (h:=aft_normal (wc_ret (?_))))))))
     )
   all_goals first
   | refine aft_ret ?_
   | (
    refine aft_normal ?_
    refine wa_ (wc_region (w_ (a_ (h:=wo_nil (e_ (h:=aft_normal (wa_ (wc_region (w_ (m_ (h:=w_ (m_ (h:=?_)))))))))))))
    first | refine ip (hc:=mkf_Nds 1 pl (by omega) (by omega)) (h:=?_) | refine iq (hc:=mkf_Nds 1 pl (by omega) (by omega)) (h:=?_) | refine ip (hc:=mkf_Nds 1 (newN pl w).2.plan (by omega) (by omega)) (h:=?_) | refine iq (hc:=mkf_Nds 1 (newN pl w).2.plan (by omega) (by omega)) (h:=?_)
    refine w_ (a_ (h:=wo_nil (e_ (h:=aft_normal (wa_ (wa_ (wc_region (w_ (m_ (h:=w_ (b_ (h:=w_ (m_ (h:=?_))))))))))))))
    refine gw_ (h1:=?_) (h2:=?_)
    rotate_right 1
    focus
     intro c4
     first
     | exact dn c4
     | (
      have d4 := c4;try simp at d4
      refine go_ (h:=go_ (h:=go_ (h:=go_ (h:=?_))))
      )
    rotate_right 1
    focus
     intro c4
     first
     | exact dn c4
     | (
      have d4 := c4;try simp at d4
      refine g_ (h:=w_ (l_ (h:=g_ (h:=w_ (l_ (h:=g_ (h:=w_ (ca (hc:=e_eqClr (newN pl w).1 (newN pl w).2 p1 p2 p3 p4) (h:=g_ (h:=w_ (u_ (h:=?_))))))))))))
      )
    all_goals
     refine w_ (pk (h:=wo_nil (e_ (h:=?_))))
    all_goals first
    | (
     refine aft_normal ?_
     refine c_ (h1:=?_) (h2:=?_)
     rotate_right 1
     focus
      intro c5
      first
      | exact dn c5
      | (
       have d5 := c5;try simp at d5
       refine wc_skip (?_)
       )
     rotate_right 1
     focus
      intro c5
      first
      | exact dn c5
      | (
       have d5 := c5;try simp at d5
       refine wa_ (wc_region (w_ (a_ (h:=wo_nil (e_ (h:=aft_normal (wc_ret (?_))))))))
       )
     )
    all_goals first
    | refine aft_ret ?_
    | (
     refine aft_normal ?_
     refine wa_ (wc_region (w_ (a_ (h:=wo_nil (e_ (h:=aft_normal (wa_ (wc_region (w_ (l_ (h:=w_ (m_ (h:=?_)))))))))))))
     refine iE (h:=?_)
     apply Exists.intro
     apply Exists.intro
     apply Exists.intro
     apply And.intro
     focus
      apply inl_s (by rw [cf_pl];rfl) cd66 rfl rfl (by simp;rfl)
      refine wa_ (wc_region (w_ (bx (h:=w_ (a_ (h:=wo_nil (e_ (h:=aft_normal (wa_ (wc_region (w_ (f_ (h:=w_ (l_ (h:=w_ (m_ (h:=?_)))))))))))))))))
      refine iE (h:=?_)
      apply Exists.intro
      apply Exists.intro
      apply Exists.intro
      apply And.intro
      focus
       apply inl_s (by rw [cf_pl];rfl) cd142 rfl rfl (by simp;rfl)
       refine wa_ (wc_region (w_ (bx (h:=w_ (a_ (h:=wo_nil (e_ (h:=aft_normal (wa_ (wc_region (w_ (f_ (h:=w_ (l_ (h:=w_ (m_ (h:=?_)))))))))))))))))
       first | refine ip (hc:=mkf_Nds 1 pl (by omega) (by omega)) (h:=?_) | refine iq (hc:=mkf_Nds 1 pl (by omega) (by omega)) (h:=?_) | refine ip (hc:=mkf_Nds 1 (newN pl w).2.plan (by omega) (by omega)) (h:=?_) | refine iq (hc:=mkf_Nds 1 (newN pl w).2.plan (by omega) (by omega)) (h:=?_)
       refine w_ (a_ (h:=wo_nil (e_ (h:=aft_normal (wa_ (wc_region (w_ (f_ (h:=w_ (l_ (h:=w_ (m_ (h:=?_)))))))))))))
       first | refine ip (hc:=mkf_Wks (1 + (cn_Nds (newN pl w).2.plan : Nat)) (newN pl w).2.workers (by omega) (by omega)) (h:=?_) | refine iq (hc:=mkf_Wks (1 + (cn_Nds (newN pl w).2.plan : Nat)) (newN pl w).2.workers (by omega) (by omega)) (h:=?_)
       refine w_ (a_ (h:=wo_nil (e_ (h:=aft_normal (wa_ (wc_region (w_ (f_ (h:=w_ (l_ (h:=w_ (m_ (h:=?_)))))))))))))
       first | refine ip (hc:=mkf_Frss (1 + (cn_Nds (newN pl w).2.plan : Nat) + (cn_Wks (newN pl w).2.workers : Nat)) (newN pl w).2.links (by omega) p6 (by omega)) (h:=?_) | refine iq (hc:=mkf_Frss (1 + (cn_Nds (newN pl w).2.plan : Nat) + (cn_Wks (newN pl w).2.workers : Nat)) (newN pl w).2.links (by omega) p6 (by omega)) (h:=?_)
       refine w_ (a_ (h:=wo_nil (e_ (h:=aft_normal (wa_ (wc_region (w_ (m_ (h:=w_ (a_ (h:=wo_nil (e_ (h:=aft_normal (wc_ret (?_)))))))))))))))
       exact ⟨by simp,_,rfl,rfl,rfl⟩
      refine ⟨_,(by (simp;rfl)),?_⟩
      refine w_ (a_ (h:=wo_nil (e_ (h:=aft_normal (wa_ (wc_region (w_ (m_ (h:=w_ (a_ (h:=wo_nil (e_ (h:=aft_normal (wc_ret (?_)))))))))))))))
      exact ⟨by simp,_,rfl,rfl,rfl⟩
     refine ⟨_,(by (simp;rfl)),?_⟩
     refine w_ (a_ (h:=wo_nil (e_ (h:=aft_normal (wa_ (wc_region (w_ (a_ (h:=wo_nil (e_ (h:=aft_normal (wa_ (wc_region (w_ (l_ (h:=w_ (m_ (h:=?_))))))))))))))))))
     refine w_ (ca (hc:=e_heldClr (newN pl w).1 1 (newN pl w).2 (by omega) p6 (by omega)) (h:=w_ (a_ (h:=wo_nil (e_ (h:=aft_normal (wa_ (wa_ (wc_region (w_ (m_ (h:=w_ (b_ (h:=wo_nil (e_ (h:=aft_normal (?_)))))))))))))))))
     refine c_ (h1:=?_) (h2:=?_)
     rotate_right 1
     focus
      intro c6
      first
      | exact dn c6
      | (
       have d6 := c6;try simp at d6
       refine wc_skip (?_)
       )
     rotate_right 1
     focus
      intro c6
      first
      | exact dn c6
      | (
       have d6 := c6;try simp at d6
       refine wa_ (wc_region (w_ (a_ (h:=wo_nil (e_ (h:=aft_normal (wc_ret (?_))))))))
       )
     all_goals first
     | refine aft_ret ?_
     | (
      refine aft_normal ?_
      refine wa_ (wa_ (wc_region (w_ (m_ (h:=w_ (m_ (h:=w_ (bE (h:=wo_nil (e_ (h:=aft_normal (?_))))))))))))
      refine c_ (h1:=?_) (h2:=?_)
      rotate_right 1
      focus
       intro c7
       first
       | exact dn c7
       | (
        have d7 := c7;try simp at d7
        refine wc_skip (?_)
        )
      rotate_right 1
      focus
       intro c7
       first
       | exact dn c7
       | (
        have d7 := c7;try simp at d7
        refine wa_ (wc_region (w_ (a_ (h:=wo_nil (e_ (h:=aft_normal (wc_ret (?_))))))))
        )
      all_goals first
      | refine aft_ret ?_
      | (
       refine aft_normal ?_
       refine wa_ (wc_region (w_ (m_ (h:=w_ (ca (hc:=e_toNS pl 0 h1 h2) (h:=w_ (m_ (h:=w_ (ca (hc:=e_newI pl w h1 h2) (h:=w_ (al (h:=w0 (s_ (h:=wo_nil (e_ (h:=aft_normal (wa_ (wa_ (?_)))))))))))))))))))
       refine wc_region (w_ (l_ (h:=w_ (l_ (h:=w_ (ca (hc:=e_eqClr (newN pl w).1 (newN pl w).2 p1 p2 p3 p4) (h:=w_ (u_ (h:=wo_nil (e_ (h:=aft_normal (?_))))))))))))
       refine c_ (h1:=?_) (h2:=?_)
       rotate_right 1
       focus
        intro c8
        first
        | exact dn c8
        | (
         have d8 := c8;try simp at d8
         refine wc_skip (?_)
         )
       rotate_right 1
       focus
        intro c8
        first
        | exact dn c8
        | (
         have d8 := c8;try simp at d8
         refine wa_ (wc_region (w_ (a_ (h:=wo_nil (e_ (h:=aft_normal (wc_ret (?_))))))))
         )
       all_goals first
       | refine aft_ret ?_
       | (
        refine aft_normal ?_
        refine wa_ (wc_region (w_ (a_ (h:=wo_nil (e_ (h:=aft_normal (wa_ (wc_region (w_ (l_ (h:=w_ (m_ (h:=w_ (ca (hc:=e_heldClr (newN pl w).1 1 (newN pl w).2 (by omega) p6 (by omega)) (h:=w_ (a_ (h:=wo_nil (e_ (h:=?_)))))))))))))))))))
        refine aft_normal (wa_ (wa_ (wc_region (w_ (m_ (h:=w_ (b_ (h:=wo_nil (e_ (h:=aft_normal (?_)))))))))))
        refine c_ (h1:=?_) (h2:=?_)
        rotate_right 1
        focus
         intro c9
         first
         | exact dn c9
         | (
          have d9 := c9;try simp at d9
          refine wc_skip (?_)
          )
        rotate_right 1
        focus
         intro c9
         first
         | exact dn c9
         | (
          have d9 := c9;try simp at d9
          refine wa_ (wc_region (w_ (a_ (h:=wo_nil (e_ (h:=aft_normal (wc_ret (?_))))))))
          )
        all_goals first
        | refine aft_ret ?_
        | (
         refine aft_normal ?_
         refine wa_ (wa_ (wc_region (w_ (m_ (h:=w_ (m_ (h:=w_ (bE (h:=wo_nil (e_ (h:=aft_normal (?_))))))))))))
         refine c_ (h1:=?_) (h2:=?_)
         rotate_right 1
         focus
          intro c10
          first
          | exact dn c10
          | (
           have d10 := c10;try simp at d10
           refine wc_skip (?_)
           )
         rotate_right 1
         focus
          intro c10
          first
          | exact dn c10
          | (
           have d10 := c10;try simp at d10
           refine wa_ (wc_region (w_ (a_ (h:=wo_nil (e_ (h:=aft_normal (wc_ret (?_))))))))
           )
         all_goals first
         | refine aft_ret ?_
         | (
          refine aft_normal ?_
          refine wa_ (wc_region (w_ (a_ (h:=wo_nil (e_ (h:=aft_normal (wc_ret (?_))))))))
          )
         )
        )
       )
      )
     )
    )
   )
  )
 all_goals (refine fin_ (hr:=(res_tmp rfl res_nil)) (h:=?_);(focus (simp)))
end Go.Proofs.Ytgkbmiaimjpbfaa.Ev
