/- Part 5 of the proof that the law named in the last part returns true at every argument: an evaluator of the program, shown sound, and its runs. No further conditions. -/
import Derived.Test.YtadaeiahfidodaaGreatML2104
namespace Go.Proofs.YtadaeiahfidodaaGreat.Ev
open Go
set_option maxRecDepth 100000
set_option linter.unusedSimpArgs false
set_option linter.unusedVariables false
set_option maxHeartbeats 2000000
def Good (pl : List Nd) (ws : List Int) : Prop := ∀ n : Nat,n < ws.length → ∃ d,pl[n]? = some d ∧ at0 ws n = widthN d (ws.take n) ∧ fitN d n ∧ d.cells.length < 2000000
theorem at0_take {ws : List Int} {n : Nat} {a : Int} (h : a.toNat < n) : at0 (ws.take n) a = at0 ws a := by
  simp only [at0,List.getD_eq_getElem?_getD,List.getElem?_take,if_pos h]
theorem e_l3Width (pl : List Nd) (ws : List Int) (hp : pl.length < 2000000) (G : Good pl ws) : ∀ n : Nat,n < ws.length → oc.call 99 [.lst false 0 (nds false 0 pl),.int .i64 n] = some (.int .i64 (at0 ws n),[]) := by
  intro n
  induction n using Nat.strongRecOn with
  | ind n ih =>
    intro hn
    obtain ⟨d,hx,hv,⟨h1,h2⟩,hd⟩ := G n hn
    have hrec : ∀ a : Int,0 ≤ a → a < n → oc.call 99 [.lst false 0 (nds false 0 pl),.int .i64 a] = some (.int .i64 (at0 (ws.take n) a),[]) := by
      intro a h3 h4
      have := ih a.toNat (by omega) (by omega)
      rw [at0_take (by omega)]
      rw [Int.toNat_of_nonneg h3] at this
      exact this
    have g1 : (nds false 0 pl)[(n : Int).toNat]? = some (d.v false 0) := nds_get (by simpa using hx)
    rw [hv]
    refine fun_s rfl cd99 rfl rfl rfl (by simp;rfl) (by simp;rfl) ?_
    refine wa_ (wc_region (w_ (a_ (h:=wo_nil (e_ (h:=aft_normal (wa_ (wc_region (w_ (m_ (h:=w_ (m_ (h:=w_ (x_ (h:=w_ (l_ (h:=w_ (al (h:=w0 (s_ (h:=wo_nil (e_ (h:=aft_normal (wa_ (wa_ (wc_region (w_ (f_ (h:=w_ (l_ (h:=wo_nil (e_ (h:=aft_normal (wc_block (wa_ (wc_region (w_ (bE (h:=w_ (a_ (h:=wo_nil (e_ (h:=aft_normal (?_))))))))))))))))))))))))))))))))))))))))))))
    refine c_ (h1:=?_) (h2:=?_)
    rotate_right 1
    focus
     intro c1
     first
     | exact dn c1
     | (have d1 := c1;try simp at d1
        refine wa_ (wc_region (w_ (bE (h:=w_ (a_ (h:=wo_nil (e_ (h:=aft_normal (?_)))))))))
        refine c_ (h1:=?_) (h2:=?_)
        rotate_right 1
        focus
         intro c2
         first
         | exact dn c2
         | (have d2 := c2;try simp at d2
            refine wa_ (wc_region (w_ (bE (h:=w_ (a_ (h:=wo_nil (e_ (h:=aft_normal (?_)))))))))
            refine c_ (h1:=?_) (h2:=?_)
            rotate_right 1
            focus
             intro c3
             first
             | exact dn c3
             | (have d3 := c3;try simp at d3
                refine wa_ (wa_ (wc_region (w_ (bE (h:=w_ (a_ (h:=wo_nil (e_ (h:=aft_normal (?_))))))))))
                refine c_ (h1:=?_) (h2:=?_)
                rotate_right 1
                focus
                 intro c4
                 first
                 | exact dn c4
                 | (have d4 := c4;try simp at d4
                    refine wa_ (wc_region (w_ (bE (h:=w_ (a_ (h:=wo_nil (e_ (h:=aft_normal (?_)))))))))
                    refine c_ (h1:=?_) (h2:=?_)
                    rotate_right 1
                    focus
                     intro c5
                     first
                     | exact dn c5
                     | (have d5 := c5;try simp at d5
                        refine wa_ (wc_region (w_ (bE (h:=w_ (a_ (h:=wo_nil (e_ (h:=aft_normal (?_)))))))))
                        refine c_ (h1:=?_) (h2:=?_)
                        rotate_right 1
                        focus
                         intro c6
                         first
                         | exact dn c6
                         | (have d6 := c6;try simp at d6
                            refine wc_region (w_ (bE (h:=w_ (a_ (h:=wo_nil (e_ (h:=?_)))))))
                            )
                        rotate_right 1
                        focus
                         intro c6
                         first
                         | exact dn c6
                         | (have d6 := c6;try simp at d6
                            refine wc_skip (?_)
                            )
                        )
                    rotate_right 1
                    focus
                     intro c5
                     first
                     | exact dn c5
                     | (have d5 := c5;try simp at d5
                        refine wc_skip (?_)
                        )
                    )
                rotate_right 1
                focus
                 intro c4
                 first
                 | exact dn c4
                 | (have d4 := c4;try simp at d4
                    refine wc_skip (?_)
                    )
                all_goals first
                | (refine aft_normal ?_
                   refine c_ (h1:=?_) (h2:=?_)
                   rotate_right 1
                   focus
                    intro c7
                    first
                    | exact dn c7
                    | (have d7 := c7;try simp at d7
                       obtain ⟨h3,h4⟩ := h1 (by omega)
                       refine wc_skip (?_)
                       )
                   rotate_right 1
                   focus
                    intro c7
                    first
                    | exact dn c7
                    | (have d7 := c7;try simp at d7
                       refine wa_ (wc_region (w_ (f_ (h:=w_ (l_ (h:=w_ (b_ (h:=w_ (a_ (h:=wo_nil (e_ (h:=aft_normal (wc_ret (?_))))))))))))))
                       )
                   )
                )
            rotate_right 1
            focus
             intro c3
             first
             | exact dn c3
             | (have d3 := c3;try simp at d3
                obtain ⟨h3,h4⟩ := h1 (by omega);obtain ⟨h5,h6⟩ := h2 (by omega)
                refine wa_ (wc_draw (y_ (m_ (h:=ax_ (h:=y_ (f_ (h:=ax_ (h:=y_ (l_ (h:=ax_ (h:=y_ (ca (hc:=hrec _ h3 h4) (h:=ax_ (h:=y_ (m_ (h:=ax_ (h:=y_ (f_ (h:=ax_ (h:=y_ (l_ (h:=ax_ (h:=y_ (ca (hc:=hrec _ h5 h6) (h:=ax_ (h:=y_ (b_ (h:=ax_ (h:=y_ (f_ (h:=ax_ (h:=y_ (l_ (h:=ax_ (h:=y_ (b_ (h:=ax_ (h:=y_ (a_ (h:=ax_ (h:=wo_nil (ed (h:=aft_normal (wc_ret (?_)))))))))))))))))))))))))))))))))))))))))))))
                )
            )
        rotate_right 1
        focus
         intro c2
         first
         | exact dn c2
         | (have d2 := c2;try simp at d2
            refine wa_ (wc_region (w_ (f_ (h:=w_ (l_ (h:=w_ (le (h:=w_ (a_ (h:=wo_nil (e_ (h:=aft_normal (wc_ret (?_))))))))))))))
            )
        )
    rotate_right 1
    focus
     intro c1
     first
     | exact dn c1
     | (have d1 := c1;try simp at d1
        refine wa_ (wc_region (w_ (f_ (h:=w_ (l_ (h:=w_ (a_ (h:=wo_nil (e_ (h:=aft_normal (wc_ret (?_))))))))))))
        )
    all_goals first | refine blk_normal ?_ | refine blk_ret ?_
    all_goals first
    | refine aft_ret ?_
    | (refine aft_normal ?_
       refine wa_ (wc_region (w_ (m_ (h:=w_ (f_ (h:=w_ (l_ (h:=w_ (ca (hc:=hrec _ h3 h4) (h:=w_ (a_ (h:=wo_nil (e_ (h:=aft_normal (wc_ret (?_))))))))))))))))
       )
    all_goals (refine fin_ (hr:=(res_tmp rfl res_nil)) (h:=?_);(focus (clear ih hrec hv G;simp [widthN];grind [inI])))
theorem e_l3Named (d : Nd) (hd : d.cells.length < 2000000) (ho : 1 ≤ d.op ∧ d.op ≤ 12) : oc.call 97 [d.v false 0] = some (.bool (decide (d = plainN d)),[]) := by
 refine fun_s rfl cd97 rfl rfl rfl (by simp;rfl) (by simp;rfl) ?_
 refine wa_ (wc_region (w_ (bx (h:=w_ (a_ (h:=wo_nil (e_ (h:=aft_normal (wa_ (wa_ (wc_region (w_ (f_ (h:=w_ (l_ (h:=w_ (ca (hc:=e_l3Reads _) (h:=w_ (b_ (h:=w_ (m_ (h:=?_))))))))))))))))))))))
 refine gw_ (h1:=?_) (h2:=?_)
 rotate_right 1
 focus
  intro c1
  first
  | exact dn c1
  | (
   have d1 := c1;try simp at d1
   refine go_ (h:=go_ (h:=go_ (h:=?_)))
   )
 rotate_right 1
 focus
  intro c1
  first
  | exact dn c1
  | (
   have d1 := c1;try simp at d1
   refine g_ (h:=w_ (f_ (h:=g_ (h:=w_ (l_ (h:=g_ (h:=w_ (bE (h:=?_)))))))))
   )
 all_goals
  refine w_ (pk (h:=w_ (m_ (h:=?_))))
  refine gw_ (h1:=?_) (h2:=?_)
  rotate_right 1
  focus
   intro c2
   first
   | exact dn c2
   | (
    have d2 := c2;try simp at d2
    refine go_ (h:=go_ (h:=go_ (h:=go_ (h:=go_ (h:=?_)))))
    )
  rotate_right 1
  focus
   intro c2
   first
   | exact dn c2
   | (
    have d2 := c2;try simp at d2
    refine g_ (h:=w_ (f_ (h:=g_ (h:=w_ (l_ (h:=g_ (h:=w_ (ca (hc:=e_l3Reads _) (h:=g_ (h:=w_ (b_ (h:=g_ (h:=w_ (m_ (h:=?_)))))))))))))))
    )
  all_goals
   first
   | (
    skip
    refine goN (h:=goN (h:=goN (h:=?_)))
    )
   | (
    refine gw_ (h1:=?_) (h2:=?_)
    rotate_right 1
    focus
     intro c3
     first
     | exact dn c3
     | (
      have d3 := c3;try simp at d3
      refine go_ (h:=go_ (h:=go_ (h:=?_)))
      )
    rotate_right 1
    focus
     intro c3
     first
     | exact dn c3
     | (
      have d3 := c3;try simp at d3
      refine g_ (h:=w_ (f_ (h:=g_ (h:=w_ (l_ (h:=g_ (h:=w_ (bE (h:=?_)))))))))
      )
    )
   all_goals
    first
    | (
     skip
     refine g_ (h:=w_ (pk (h:=?_)))
     )
    | (
     skip
     refine go_ (h:=?_)
     )
    all_goals
     refine w_ (pk (h:=wo_nil (e_ (h:=?_))))
 all_goals first
 | (
  refine aft_normal ?_
  refine c_ (h1:=?_) (h2:=?_)
  rotate_right 1
  focus
   intro c4
   first
   | exact dn c4
   | (
    have d4 := c4;try simp at d4
    refine wc_skip (?_)
    )
  rotate_right 1
  focus
   intro c4
   first
   | exact dn c4
   | (
    have d4 := c4;try simp at d4
    refine wa_ (wc_region (w_ (a_ (h:=wo_nil (e_ (h:=aft_normal (wc_ret (?_))))))))
    )
  )
 all_goals first
 | refine aft_ret ?_
 | (
  refine aft_normal ?_
  refine wa_ (wa_ (wc_region (w_ (f_ (h:=w_ (l_ (h:=w_ (bE (h:=w_ (m_ (h:=?_)))))))))))
  refine gw_ (h1:=?_) (h2:=?_)
  rotate_right 1
  focus
   intro c5
   first
   | exact dn c5
   | (
    have d5 := c5;try simp at d5
    refine go_ (h:=go_ (h:=go_ (h:=go_ (h:=?_))))
    )
  rotate_right 1
  focus
   intro c5
   first
   | exact dn c5
   | (
    have d5 := c5;try simp at d5
    refine g_ (h:=w_ (f_ (h:=g_ (h:=w_ (l_ (h:=g_ (h:=w_ (bE (h:=g_ (h:=w_ (m_ (h:=?_))))))))))))
    )
  all_goals
   first
   | (
    skip
    refine goN (h:=goN (h:=goN (h:=?_)))
    )
   | (
    refine gw_ (h1:=?_) (h2:=?_)
    rotate_right 1
    focus
     intro c6
     first
     | exact dn c6
     | (
      have d6 := c6;try simp at d6
      refine go_ (h:=go_ (h:=go_ (h:=?_)))
      )
    rotate_right 1
    focus
     intro c6
     first
     | exact dn c6
     | (
      have d6 := c6;try simp at d6
      refine g_ (h:=w_ (f_ (h:=g_ (h:=w_ (l_ (h:=g_ (h:=w_ (bE (h:=?_)))))))))
      )
    )
   all_goals
    first
    | (
     skip
     refine g_ (h:=w_ (pk (h:=?_)))
     )
    | (
     skip
     refine go_ (h:=?_)
     )
    all_goals
     refine w_ (pk (h:=w_ (m_ (h:=?_))))
     refine gw_ (h1:=?_) (h2:=?_)
     rotate_right 1
     focus
      intro c7
      first
      | exact dn c7
      | (
       have d7 := c7;try simp at d7
       refine go_ (h:=go_ (h:=go_ (h:=go_ (h:=?_))))
       )
     rotate_right 1
     focus
      intro c7
      first
      | exact dn c7
      | (
       have d7 := c7;try simp at d7
       refine g_ (h:=w_ (f_ (h:=g_ (h:=w_ (l_ (h:=g_ (h:=w_ (bE (h:=g_ (h:=w_ (m_ (h:=?_))))))))))))
       )
     all_goals
      first
      | (
       skip
       refine goN (h:=goN (h:=goN (h:=goN (h:=?_))))
       )
      | (
       refine gw_ (h1:=?_) (h2:=?_)
       rotate_right 1
       focus
        intro c8
        first
        | exact dn c8
        | (
         have d8 := c8;try simp at d8
         refine go_ (h:=go_ (h:=go_ (h:=go_ (h:=?_))))
         )
       rotate_right 1
       focus
        intro c8
        first
        | exact dn c8
        | (
         have d8 := c8;try simp at d8
         refine g_ (h:=w_ (f_ (h:=g_ (h:=w_ (l_ (h:=g_ (h:=w_ (le (h:=g_ (h:=w_ (b_ (h:=?_))))))))))))
         )
       )
      all_goals
       first
       | (
        skip
        refine g_ (h:=w_ (pk (h:=?_)))
        )
       | (
        skip
        refine go_ (h:=?_)
        )
       all_goals
        refine w_ (pk (h:=wo_nil (e_ (h:=?_))))
  all_goals first
  | (
   refine aft_normal ?_
   refine c_ (h1:=?_) (h2:=?_)
   rotate_right 1
   focus
    intro c9
    first
    | exact dn c9
    | (
     have d9 := c9;try simp at d9
     refine wc_skip (?_)
     )
   rotate_right 1
   focus
    intro c9
    first
    | exact dn c9
    | (
     have d9 := c9;try simp at d9
     refine wa_ (wc_region (w_ (a_ (h:=wo_nil (e_ (h:=aft_normal (wc_ret (?_))))))))
     )
   )
  all_goals first
  | refine aft_ret ?_
  | (
   refine aft_normal ?_
   refine wa_ (wa_ (wc_region (w_ (f_ (h:=w_ (l_ (h:=wo_nil (e_ (h:=aft_normal (wc_block (wa_ (wa_ (wc_region (w_ (bE (h:=w_ (a_ (h:=wo_nil (e_ (h:=aft_normal (?_)))))))))))))))))))))
   refine c_ (h1:=?_) (h2:=?_)
   rotate_right 1
   focus
    intro c10
    first
    | exact dn c10
    | (
     have d10 := c10;try simp at d10
     refine wa_ (wc_region (w_ (bE (h:=w_ (a_ (h:=wo_nil (e_ (h:=aft_normal (?_)))))))))
     refine c_ (h1:=?_) (h2:=?_)
     rotate_right 1
     focus
      intro c11
      first
      | exact dn c11
      | (
       have d11 := c11;try simp at d11
       refine wa_ (wc_region (w_ (bE (h:=w_ (a_ (h:=wo_nil (e_ (h:=aft_normal (?_)))))))))
       refine c_ (h1:=?_) (h2:=?_)
       rotate_right 1
       focus
        intro c12
        first
        | exact dn c12
        | (
         have d12 := c12;try simp at d12
         refine wa_ (wc_region (w_ (bE (h:=w_ (a_ (h:=wo_nil (e_ (h:=aft_normal (?_)))))))))
         refine c_ (h1:=?_) (h2:=?_)
         rotate_right 1
         focus
          intro c13
          first
          | exact dn c13
          | (
           have d13 := c13;try simp at d13
           refine wc_region (w_ (bE (h:=w_ (a_ (h:=wo_nil (e_ (h:=?_)))))))
           )
         rotate_right 1
         focus
          intro c13
          first
          | exact dn c13
          | (
           have d13 := c13;try simp at d13
           refine wc_skip (?_)
           )
         )
       rotate_right 1
       focus
        intro c12
        first
        | exact dn c12
        | (
         have d12 := c12;try simp at d12
         refine wc_skip (?_)
         )
       )
     rotate_right 1
     focus
      intro c11
      first
      | exact dn c11
      | (
       have d11 := c11;try simp at d11
       refine wc_skip (?_)
       )
     )
   rotate_right 1
   focus
    intro c10
    first
    | exact dn c10
    | (
     have d10 := c10;try simp at d10
     refine wc_skip (?_)
     )
   all_goals first
   | (
    refine aft_normal ?_
    refine c_ (h1:=?_) (h2:=?_)
    rotate_right 1
    focus
     intro c14
     first
     | exact dn c14
     | (
      have d14 := c14;try simp at d14
      refine wc_skip (?_)
      )
    rotate_right 1
    focus
     intro c14
     first
     | exact dn c14
     | (
      have d14 := c14;try simp at d14
      refine wa_ (wc_region (w_ (f_ (h:=w_ (l_ (h:=w_ (bE (h:=w_ (a_ (h:=wo_nil (e_ (h:=aft_normal (wc_ret (?_))))))))))))))
      )
    )
   all_goals first | refine blk_normal ?_ | refine blk_ret ?_
   all_goals first
   | refine aft_ret ?_
   | (
    refine aft_normal ?_
    refine wa_ (wc_region (w_ (a_ (h:=wo_nil (e_ (h:=aft_normal (wc_ret (?_))))))))
    )
   )
  )
 all_goals (refine fin_ (hr:=(res_tmp rfl res_nil)) (h:=?_);(focus (simp [Nd.eq_iff,plainN];grind)))
theorem reads_len (d : Nd) : ((readsN d).length : Int) = if d.op = 1 then 0 else if d.op = 4 ∨ d.op = 6 then 2 else 1 := by
  unfold readsN
  split
  · simp
  · split <;> simp
theorem reads_at {d : Nd} {k : Nat} (h : k < (readsN d).length) : (readsN d).drop k = (if k = 1 then d.b else d.a) :: (readsN d).drop (k + 1) := by
  rw [List.drop_eq_getElem_cons h]
  congr 1
  unfold readsN at h ⊢
  split at h
  · simp at h
  · split at h
    · simp at h
      rcases k with _ | _ | k
      · simp [*]
      · simp [*]
      · omega
    · simp at h
      subst h
      simp [*]
theorem l_readsS (pl : List Nd) (d : Nd) (i : Nat) (hp : pl.length < 2000000) (hi : i ≤ pl.length) : ∀ k : Nat,k ≤ (readsN d).length → ∀ s,normE 2 (some [0,1,5,6]) s = ⟨[(0,.lst false 0 (nds false 0 pl)),(1,.int .i64 i),(5,.ptr 2 0 []),(6,.int .i64 k)],[(2,⟨true,false,7,[d.v false 0],0⟩)],3⟩ →
 oc.loop 68 7 s = some (if ((readsN d).drop k).all (okR pl i) = true then (.exit 0,⟨[(0,.lst false 0 (nds false 0 pl)),(5,.ptr 2 0 [])],[(2,⟨true,false,7,[d.v false 0],0⟩)],3⟩)
  else (.ret,⟨[(0,.lst false 0 (nds false 0 pl)),(4,.int .i64 3),(5,.ptr 2 0 [])],[(2,⟨true,false,7,[d.v false 0],0⟩)],3⟩)) := by
 refine loop_ind (fun k => (readsN d).length - k) _ (fun k => ⟨[(0,.lst false 0 (nds false 0 pl)),(1,.int .i64 i),(5,.ptr 2 0 []),(6,.int .i64 k)],[(2,⟨true,false,7,[d.v false 0],0⟩)],3⟩) _ ?_
 intro k hk ih s hs
 have hw2 : IntKind.i64.wrap ((i : Int) - 1) = i - 1 := wrap_id (by omega) (by omega)
 have hlen := reads_len d
 have hle : (readsN d).length ≤ 2 := by unfold readsN;split;simp;split <;> simp
 have hw := wrap_succ (i:=k) (by omega)
 refine loop_s cd68 rfl rfl hs ?_
 refine wa_ (wa_ (wc_region (w_ (m_ (h:=w_ (f_ (h:=w_ (l_ (h:=w_ (ca (hc:=e_l3Reads _) (h:=w_ (b_ (h:=wo_nil (e_ (h:=aft_normal (?_))))))))))))))))
 refine c_ (h1:=?_) (h2:=?_)
 rotate_right 1
 focus
  intro c1
  first
  | exact dn c1
  | (
   have d1 := c1;try simp at d1
   rw [← hlen] at d1;have : k = (readsN d).length := (by omega)
   refine wc_exit (?_)
   )
 rotate_right 1
 focus
  intro c1
  first
  | exact dn c1
  | (
   have d1 := c1;try simp at d1
   rw [← hlen] at d1;have e1 := reads_at (d:=d) (k:=k) (by omega)
   refine wc_skip (?_)
   )
 all_goals first
 | refine aft_exit ?_
 | (
  refine aft_normal ?_
  refine wa_ (wc_block (wa_ (wc_region (w_ (f_ (h:=w_ (l_ (h:=w_ (a_ (h:=wo_nil (e_ (h:=aft_normal (wa_ (wa_ (wc_region (w_ (m_ (h:=w_ (bE (h:=wo_nil (e_ (h:=aft_normal (?_)))))))))))))))))))))))
  refine c_ (h1:=?_) (h2:=?_)
  rotate_right 1
  focus
   intro c2
   first
   | exact dn c2
   | (
    have d2 := c2;try simp at d2
    refine wc_skip (?_)
    )
  rotate_right 1
  focus
   intro c2
   first
   | exact dn c2
   | (
    have d2 := c2;try simp at d2
    refine wc_region (w_ (f_ (h:=w_ (l_ (h:=w_ (a_ (h:=wo_nil (e_ (h:=?_)))))))))
    )
  all_goals first
  | (
   refine aft_normal ?_
   refine wa_ (wc_region (w_ (m_ (h:=w_ (m_ (h:=w_ (b_ (h:=w_ (ca (hc:=e_l1In _ _ _) (h:=w_ (u_ (h:=w_ (m_ (h:=?_))))))))))))))
   refine gw_ (h1:=?_) (h2:=?_)
   rotate_right 1
   focus
    intro c3
    first
    | exact dn c3
    | (
     have d3 := c3;try simp at d3
     refine go_ (h:=go_ (h:=go_ (h:=go_ (h:=go_ (h:=go_ (h:=?_))))))
     )
   rotate_right 1
   focus
    intro c3
    first
    | exact dn c3
    | (
     have d3 := c3;try simp at d3
     simp [inI,hw2] at d3;obtain ⟨h3,h4⟩ := d3;obtain ⟨e,g2,g3⟩ := nds_ix (t:=false) (s:=0) (l:=pl) h3 (by omega)
     refine g_ (h:=w_ (m_ (h:=g_ (h:=w_ (m_ (h:=g_ (h:=w_ (x_ (h:=g_ (h:=w_ (f_ (h:=g_ (h:=w_ (l_ (h:=g_ (h:=w_ (bE (h:=?_))))))))))))))))))
     )
   all_goals
    refine w_ (pk (h:=wo_nil (e_ (h:=?_))))
   all_goals first
   | (
    refine aft_normal ?_
    refine c_ (h1:=?_) (h2:=?_)
    rotate_right 1
    focus
     intro c4
     first
     | exact dn c4
     | (
      have d4 := c4;try simp at d4
      refine wc_skip (?_)
      )
    rotate_right 1
    focus
     intro c4
     first
     | exact dn c4
     | (
      have d4 := c4;try simp at d4
      refine wa_ (wc_region (w_ (a_ (h:=wo_nil (e_ (h:=aft_normal (wc_ret (?_))))))))
      )
    )
   )
  all_goals first | refine blk_normal ?_ | refine blk_ret ?_
  all_goals first
  | refine aft_ret ?_
  | (
   refine aft_normal ?_
   refine wc_region (w_ (m_ (h:=w_ (b_ (h:=w_ (a_ (h:=wo_nil (e_ (h:=?_)))))))))
   )
  )
 all_goals first
 | (refine (ih (k + 1) (by omega) ?_ _ ?_).trans ?_;(focus (first | omega | (simp;done) | (simp;omega)));(focus (simp [normE,hw];done));(focus (rw [e1];simp [okR] at *;grind)))
 | (apply end_leaf (ex:=Ext.ret) 2 (some [0,4,5]);(focus (simp [normE];rfl));(focus (rw [e1];simp [okR] at *;grind)))
 | (apply end_leaf (ex:=(Ext.exit 0)) 2 (some [0,4,5]);(focus (simp [normE];rfl));(focus (rw [List.drop_eq_nil_of_le (by omega)];simp)))
theorem l_cellsS (d : Nd) (v : Int) (hd : d.cells.length < 2000000) : ∀ i : Nat,i ≤ d.cells.length → ∀ s,normE 2 (some [5,8,9]) s = ⟨[(5,.ptr 2 0 []),(8,.int .i64 v),(9,.int .i64 i)],[(2,⟨true,false,7,[d.v false 0],0⟩)],3⟩ →
 oc.loop 68 27 s = some (if ((d.cells.drop i).all fun c => inI c 0 (IntKind.i64.wrap (v - 1))) = true then (.exit 3,⟨[],[],2⟩) else (.ret,⟨[(4,.int .i64 3)],[],2⟩)) := by
 refine loop_ind (fun i => d.cells.length - i) _ (fun i => ⟨[(5,.ptr 2 0 []),(8,.int .i64 v),(9,.int .i64 i)],[(2,⟨true,false,7,[d.v false 0],0⟩)],3⟩) _ ?_
 intro i hi ih s hs
 refine loop_s cd68 rfl rfl hs ?_
 refine wa_ (wa_ (wc_region (w_ (m_ (h:=w_ (f_ (h:=w_ (l_ (h:=w_ (le (h:=w_ (b_ (h:=wo_nil (e_ (h:=aft_normal (?_))))))))))))))))
 refine c_ (h1:=?_) (h2:=?_)
 rotate_right 1
 focus
  intro c1
  simp at c1;have : i = d.cells.length := (by omega);subst this
  refine wc_exit (?_)
 rotate_right 1
 focus
  intro c1
  simp at c1;have hw := wrap_succ (i:=i) (by omega);obtain ⟨x,_,d1,g1⟩ := ints_cut c1
  refine wc_skip (?_)
 all_goals first
 | refine aft_exit ?_
 | (
  refine aft_normal ?_
  refine wa_ (wc_block (wa_ (wc_region (w_ (f_ (h:=w_ (l_ (h:=w_ (m_ (h:=w_ (x_ (h:=w_ (l_ (h:=w_ (m_ (h:=w_ (b_ (h:=w_ (ca (hc:=e_l1In _ _ _) (h:=w_ (u_ (h:=wo_nil (e_ (h:=aft_normal (?_)))))))))))))))))))))))))
  refine c_ (h1:=?_) (h2:=?_)
  rotate_right 1
  focus
   intro c2
   refine wc_skip (?_)
  rotate_right 1
  focus
   intro c2
   refine wa_ (wc_region (w_ (a_ (h:=wo_nil (e_ (h:=aft_normal (wc_ret (?_))))))))
  all_goals first | refine blk_normal ?_ | refine blk_ret ?_
  all_goals first
  | refine aft_ret ?_
  | (
   refine aft_normal ?_
   refine wc_region (w_ (m_ (h:=w_ (b_ (h:=w_ (a_ (h:=wo_nil (e_ (h:=?_)))))))))
   )
  )
 all_goals first
 | (refine (ih (i + 1) (by omega) ?_ _ ?_).trans ?_;(focus (first | omega | (simp;done) | (simp;omega)));(focus (simp [normE,hw];done));(focus (rw [d1];simp at c2 ⊢;grind)))
 | (apply end_leaf (ex:=Ext.ret) 2 (some [4]);(focus (simp [normE];rfl));(focus (rw [d1];simp at c2 ⊢;grind)))
 | (apply end_leaf (ex:=(Ext.exit 3)) 2 (some [4]);(focus (simp [normE];rfl));(focus (simp)))
theorem e_l3WidthI (pl : List Nd) (ws : List Int) (hp : pl.length < 2000000) (G : Good pl ws) (a : Int) (h0 : 0 ≤ a) (h1 : a < ws.length) : oc.call 99 [.lst false 0 (nds false 0 pl),.int .i64 a] = some (.int .i64 (at0 ws a),[]) := by
  have := e_l3Width pl ws hp G a.toNat (by omega)
  rwa [Int.toNat_of_nonneg h0] at this
def Hid (p : Prop) : Prop := p
theorem e_l3Node (pl : List Nd) (ws : List Int) (d : Nd) (hp : pl.length < 2000000) (hk : okN pl) (G : Good pl ws) (hx : pl[ws.length]? = some d) : oc.call 68 [.lst false 0 (nds false 0 pl),.int .i64 ws.length] = some (.int .i64 (stepC pl d ws),[]) := by
 have hd := hk d (List.mem_of_getElem? hx)
 have hlt : ws.length < pl.length := (List.getElem?_eq_some_iff.mp hx).1
 have g1 : (nds false 0 pl)[(ws.length : Int).toNat]? = some (d.v false 0) := nds_get (by simpa using hx)
 refine fun_s rfl cd68 rfl rfl rfl (by simp;rfl) (by simp;rfl) ?_
 refine wa_ (wc_region (w_ (a_ (h:=wo_nil (e_ (h:=aft_normal (wa_ (wc_region (w_ (m_ (h:=w_ (m_ (h:=w_ (x_ (h:=w_ (l_ (h:=w_ (al (h:=w0 (s_ (h:=wo_nil (e_ (h:=aft_normal (wa_ (wa_ (wc_region (w_ (f_ (h:=w_ (l_ (h:=w_ (ca (hc:=e_l1In _ _ _) (h:=w_ (u_ (h:=wo_nil (e_ (h:=aft_normal (?_))))))))))))))))))))))))))))))))))))))
 refine c_ (h1:=?_) (h2:=?_)
 rotate_right 1
 focus
  intro c1
  first
  | exact dn c1
  | (
   have d1 := c1;try simp at d1
   refine wc_skip (?_)
   )
 rotate_right 1
 focus
  intro c1
  first
  | exact dn c1
  | (
   have d1 := c1;try simp at d1
   refine wa_ (wc_region (w_ (a_ (h:=wo_nil (e_ (h:=aft_normal (wc_ret (?_))))))))
   )
 all_goals first
 | refine aft_ret ?_
 | (
  refine aft_normal ?_
  refine wa_ (wa_ (wc_region (w_ (l_ (h:=w_ (ca (hc:=e_l3Named d hd (by simp [inI] at d1;omega)) (h:=w_ (u_ (h:=wo_nil (e_ (h:=aft_normal (?_))))))))))))
  refine c_ (h1:=?_) (h2:=?_)
  rotate_right 1
  focus
   intro c2
   first
   | exact dn c2
   | (
    have d2 := c2;try simp at d2
    have hpl : Hid (d = plainN d) := d2;clear d2 c2
    refine wc_skip (?_)
    )
  rotate_right 1
  focus
   intro c2
   first
   | exact dn c2
   | (
    have d2 := c2;try simp at d2
    refine wa_ (wc_region (w_ (a_ (h:=wo_nil (e_ (h:=aft_normal (wc_ret (?_))))))))
    )
  all_goals first
  | refine aft_ret ?_
  | (
   refine aft_normal ?_
   refine wa_ (wa_ (wc_region (w_ (a_ (h:=wo_nil (e_ (h:=aft_normal (wc_block (?_)))))))))
   refine wc_loopI (l_readsS pl d ws.length (by omega) (by omega) 0 (by omega) _ (by simp [normE])) ?_ ?_
   rotate_right 1
   focus
    intro c3
    first
    | exact dn c3
    | (
     have d3 := c3;try simp at d3
     have d3' : (readsN d).all (okR pl ws.length) = false := (by simpa using c3)
     skip
     )
   rotate_right 1
   focus
    intro c3
    first
    | exact dn c3
    | (
     have d3 := c3;try simp at d3
     have d3' : (readsN d).all (okR pl ws.length) = true := (by simpa using c3);obtain ⟨k1,k2⟩ := fit_of (i:=ws.length) (by omega) (by simpa using c3)
     skip
     )
   all_goals first | refine blk_ret ?_ | refine blk_exit ?_
   all_goals first
   | refine aft_ret ?_
   | (
    refine aft_normal ?_
    refine wa_ (wa_ (wc_region (w_ (f_ (h:=w_ (l_ (h:=w_ (bE (h:=wo_nil (e_ (h:=aft_normal (?_))))))))))))
    refine c_ (h1:=?_) (h2:=?_)
    rotate_right 1
    focus
     intro c4
     first
     | exact dn c4
     | (
      have d4 := c4;try simp at d4
      obtain ⟨h3,h4⟩ := k1 (by omega)
      refine wc_skip (?_)
      )
    rotate_right 1
    focus
     intro c4
     first
     | exact dn c4
     | (
      have d4 := c4;try simp at d4
      refine wa_ (wa_ (wc_region (w_ (f_ (h:=w_ (l_ (h:=w_ (ca (hc:=e_l1In _ _ _) (h:=w_ (u_ (h:=wo_nil (e_ (h:=aft_normal (?_))))))))))))))
      refine c_ (h1:=?_) (h2:=?_)
      rotate_right 1
      focus
       intro c5
       first
       | exact dn c5
       | (
        have d5 := c5;try simp at d5
        refine wc_skip (?_)
        )
      rotate_right 1
      focus
       intro c5
       first
       | exact dn c5
       | (
        have d5 := c5;try simp at d5
        refine wa_ (wc_region (w_ (a_ (h:=wo_nil (e_ (h:=aft_normal (wc_ret (?_))))))))
        )
      all_goals first
      | refine aft_ret ?_
      | (
       refine aft_normal ?_
       refine wa_ (wc_region (w_ (a_ (h:=wo_nil (e_ (h:=aft_normal (wc_ret (?_))))))))
       )
      )
    all_goals first
    | refine aft_ret ?_
    | (
     refine aft_normal ?_
     refine wa_ (wc_region (w_ (m_ (h:=w_ (f_ (h:=w_ (l_ (h:=w_ (ca (hc:=e_l3WidthI pl ws hp G _ h3 h4) (h:=w_ (a_ (h:=wo_nil (e_ (h:=aft_normal (wa_ (wa_ (wc_region (w_ (f_ (h:=w_ (l_ (h:=wo_nil (e_ (h:=aft_normal (wc_block (wa_ (wc_region (w_ (bE (h:=w_ (a_ (h:=wo_nil (e_ (h:=aft_normal (?_)))))))))))))))))))))))))))))))))))
     refine c_ (h1:=?_) (h2:=?_)
     rotate_right 1
     focus
      intro c6
      first
      | exact dn c6
      | (
       have d6 := c6;try simp at d6
       refine wa_ (wc_region (w_ (bE (h:=w_ (a_ (h:=wo_nil (e_ (h:=aft_normal (?_)))))))))
       refine c_ (h1:=?_) (h2:=?_)
       rotate_right 1
       focus
        intro c7
        first
        | exact dn c7
        | (
         have d7 := c7;try simp at d7
         refine wa_ (wc_region (w_ (bE (h:=w_ (a_ (h:=wo_nil (e_ (h:=aft_normal (?_)))))))))
         refine c_ (h1:=?_) (h2:=?_)
         rotate_right 1
         focus
          intro c8
          first
          | exact dn c8
          | (
           have d8 := c8;try simp at d8
           refine wa_ (wc_region (w_ (bE (h:=w_ (a_ (h:=wo_nil (e_ (h:=aft_normal (?_)))))))))
           refine c_ (h1:=?_) (h2:=?_)
           rotate_right 1
           focus
            intro c9
            first
            | exact dn c9
            | (
             have d9 := c9;try simp at d9
             refine wa_ (wc_region (w_ (bE (h:=w_ (a_ (h:=wo_nil (e_ (h:=aft_normal (?_)))))))))
             refine c_ (h1:=?_) (h2:=?_)
             rotate_right 1
             focus
              intro c10
              first
              | exact dn c10
              | (
               have d10 := c10;try simp at d10
               refine wa_ (wa_ (wc_region (w_ (bE (h:=w_ (a_ (h:=wo_nil (e_ (h:=aft_normal (?_))))))))))
               refine c_ (h1:=?_) (h2:=?_)
               rotate_right 1
               focus
                intro c11
                first
                | exact dn c11
                | (
                 have d11 := c11;try simp at d11
                 refine wa_ (wc_region (w_ (bE (h:=w_ (a_ (h:=wo_nil (e_ (h:=aft_normal (?_)))))))))
                 refine c_ (h1:=?_) (h2:=?_)
                 rotate_right 1
                 focus
                  intro c12
                  first
                  | exact dn c12
                  | (
                   have d12 := c12;try simp at d12
                   refine wc_region (w_ (bE (h:=w_ (a_ (h:=wo_nil (e_ (h:=?_)))))))
                   )
                 rotate_right 1
                 focus
                  intro c12
                  first
                  | exact dn c12
                  | (
                   have d12 := c12;try simp at d12
                   refine wc_skip (?_)
                   )
                 )
               rotate_right 1
               focus
                intro c11
                first
                | exact dn c11
                | (
                 have d11 := c11;try simp at d11
                 refine wc_skip (?_)
                 )
               all_goals first
               | (
                refine aft_normal ?_
                refine c_ (h1:=?_) (h2:=?_)
                rotate_right 1
                focus
                 intro c13
                 first
                 | exact dn c13
                 | (
                  have d13 := c13;try simp at d13
                  refine wc_skip (?_)
                  )
                rotate_right 1
                focus
                 intro c13
                 first
                 | exact dn c13
                 | (
                  have d13 := c13;try simp at d13
                  refine wa_ (wc_region (w_ (f_ (h:=w_ (l_ (h:=w_ (m_ (h:=w_ (b_ (h:=w_ (ca (hc:=e_l1In _ _ _) (h:=w_ (u_ (h:=wo_nil (e_ (h:=aft_normal (?_)))))))))))))))))
                  refine c_ (h1:=?_) (h2:=?_)
                  rotate_right 1
                  focus
                   intro c14
                   first
                   | exact dn c14
                   | (
                    have d14 := c14;try simp at d14
                    refine wc_skip (?_)
                    )
                  rotate_right 1
                  focus
                   intro c14
                   first
                   | exact dn c14
                   | (
                    have d14 := c14;try simp at d14
                    refine wa_ (wc_region (w_ (a_ (h:=wo_nil (e_ (h:=aft_normal (wc_ret (?_))))))))
                    )
                  )
                )
               )
             rotate_right 1
             focus
              intro c10
              first
              | exact dn c10
              | (
               have d10 := c10;try simp at d10
               refine wa_ (wc_draw (y_ (f_ (h:=ax_ (h:=y_ (l_ (h:=ax_ (h:=y_ (m_ (h:=ax_ (h:=y_ (ca (hc:=e_l1Min _ _) (h:=ax_ (h:=y_ (ca (hc:=e_l1In _ _ _) (h:=ax_ (h:=y_ (u_ (h:=ax_ (h:=wo_nil (ed (h:=aft_normal (?_)))))))))))))))))))))))
               refine c_ (h1:=?_) (h2:=?_)
               rotate_right 1
               focus
                intro c15
                first
                | exact dn c15
                | (
                 have d15 := c15;try simp at d15
                 refine wc_skip (?_)
                 )
               rotate_right 1
               focus
                intro c15
                first
                | exact dn c15
                | (
                 have d15 := c15;try simp at d15
                 refine wa_ (wc_region (w_ (a_ (h:=wo_nil (e_ (h:=aft_normal (wc_ret (?_))))))))
                 )
               )
             )
           rotate_right 1
           focus
            intro c9
            first
            | exact dn c9
            | (
             have d9 := c9;try simp at d9
             obtain ⟨h5,h6⟩ := k2 (by omega)
             refine wa_ (wc_region (w_ (m_ (h:=w_ (f_ (h:=w_ (l_ (h:=w_ (ca (hc:=e_l3WidthI pl ws hp G _ h5 h6) (h:=w_ (a_ (h:=wo_nil (e_ (h:=aft_normal (wa_ (wa_ (wc_draw (y_ (f_ (h:=ax_ (h:=y_ (l_ (h:=ax_ (h:=y_ (m_ (h:=ax_ (h:=y_ (m_ (h:=ax_ (h:=y_ (ca (hc:=e_l1Min _ _) (h:=ax_ (h:=y_ (ca (hc:=e_l1In _ _ _) (h:=ax_ (h:=y_ (u_ (h:=ax_ (h:=wo_nil (ed (h:=aft_normal (?_))))))))))))))))))))))))))))))))))))))))))
             refine c_ (h1:=?_) (h2:=?_)
             rotate_right 1
             focus
              intro c16
              first
              | exact dn c16
              | (
               have d16 := c16;try simp at d16
               refine wc_skip (?_)
               )
             rotate_right 1
             focus
              intro c16
              first
              | exact dn c16
              | (
               have d16 := c16;try simp at d16
               refine wa_ (wc_region (w_ (a_ (h:=wo_nil (e_ (h:=aft_normal (wc_ret (?_))))))))
               )
             all_goals first
             | refine aft_ret ?_
             | (
              refine aft_normal ?_
              refine wa_ (wc_region (w_ (m_ (h:=w_ (m_ (h:=w_ (b_ (h:=w_ (f_ (h:=w_ (l_ (h:=w_ (b_ (h:=w_ (b_ (h:=wo_nil (e_ (h:=aft_normal (?_)))))))))))))))))))
              refine c_ (h1:=?_) (h2:=?_)
              rotate_right 1
              focus
               intro c17
               first
               | exact dn c17
               | (
                have d17 := c17;try simp at d17
                refine wc_skip (?_)
                )
              rotate_right 1
              focus
               intro c17
               first
               | exact dn c17
               | (
                have d17 := c17;try simp at d17
                refine wa_ (wc_region (w_ (a_ (h:=wo_nil (e_ (h:=aft_normal (wc_ret (?_))))))))
                )
              )
             )
           )
         rotate_right 1
         focus
          intro c8
          first
          | exact dn c8
          | (
           have d8 := c8;try simp at d8
           obtain ⟨h5,h6⟩ := k2 (by omega)
           refine wa_ (wc_region (w_ (m_ (h:=w_ (m_ (h:=w_ (f_ (h:=w_ (l_ (h:=w_ (ca (hc:=e_l3WidthI pl ws hp G _ h5 h6) (h:=w_ (bE (h:=wo_nil (e_ (h:=aft_normal (?_)))))))))))))))))
           refine c_ (h1:=?_) (h2:=?_)
           rotate_right 1
           focus
            intro c18
            first
            | exact dn c18
            | (
             have d18 := c18;try simp at d18
             refine wc_skip (?_)
             )
           rotate_right 1
           focus
            intro c18
            first
            | exact dn c18
            | (
             have d18 := c18;try simp at d18
             refine wa_ (wc_region (w_ (a_ (h:=wo_nil (e_ (h:=aft_normal (wc_ret (?_))))))))
             )
           )
         )
       rotate_right 1
       focus
        intro c7
        first
        | exact dn c7
        | (
         have d7 := c7;try simp at d7
         refine wa_ (wa_ (wc_region (w_ (f_ (h:=w_ (l_ (h:=w_ (le (h:=w_ (b_ (h:=w_ (m_ (h:=?_)))))))))))))
         refine gw_ (h1:=?_) (h2:=?_)
         rotate_right 1
         focus
          intro c19
          first
          | exact dn c19
          | (
           have d19 := c19;try simp at d19
           refine go_ (h:=go_ (h:=go_ (h:=go_ (h:=?_))))
           )
         rotate_right 1
         focus
          intro c19
          first
          | exact dn c19
          | (
           have d19 := c19;try simp at d19
           refine g_ (h:=w_ (f_ (h:=g_ (h:=w_ (l_ (h:=g_ (h:=w_ (le (h:=g_ (h:=w_ (b_ (h:=?_))))))))))))
           )
         all_goals
          refine w_ (pk (h:=wo_nil (e_ (h:=?_))))
         all_goals first
         | (
          refine aft_normal ?_
          refine c_ (h1:=?_) (h2:=?_)
          rotate_right 1
          focus
           intro c20
           first
           | exact dn c20
           | (
            have d20 := c20;try simp at d20
            refine wc_skip (?_)
            )
          rotate_right 1
          focus
           intro c20
           first
           | exact dn c20
           | (
            have d20 := c20;try simp at d20
            refine wa_ (wc_region (w_ (a_ (h:=wo_nil (e_ (h:=aft_normal (wc_ret (?_))))))))
            )
          )
         all_goals first
         | refine aft_ret ?_
         | (
          refine aft_normal ?_
          refine wa_ (wc_region (w_ (a_ (h:=wo_nil (e_ (h:=aft_normal (wc_block (?_))))))))
          refine wc_loopI (l_cellsS d (at0 ws d.a) hd 0 (by omega) _ (by simp [normE])) ?_ ?_
          rotate_right 1
          focus
           intro c21
           first
           | exact dn c21
           | (
            have d21 := c21;try simp at d21
            skip
            )
          rotate_right 1
          focus
           intro c21
           first
           | exact dn c21
           | (
            have d21 := c21;try simp at d21
            skip
            )
          all_goals first | refine blk_ret ?_ | refine blk_exit ?_
          )
         )
       )
     rotate_right 1
     focus
      intro c6
      first
      | exact dn c6
      | (
       have d6 := c6;try simp at d6
       refine wa_ (wc_region (w_ (f_ (h:=w_ (l_ (h:=w_ (m_ (h:=w_ (b_ (h:=w_ (ca (hc:=e_l1In _ _ _) (h:=w_ (u_ (h:=w_ (m_ (h:=?_))))))))))))))))
       refine gw_ (h1:=?_) (h2:=?_)
       rotate_right 1
       focus
        intro c22
        first
        | exact dn c22
        | (
         have d22 := c22;try simp at d22
         refine go_ (h:=go_ (h:=go_ (h:=go_ (h:=?_))))
         )
       rotate_right 1
       focus
        intro c22
        first
        | exact dn c22
        | (
         have d22 := c22;try simp at d22
         refine g_ (h:=w_ (f_ (h:=g_ (h:=w_ (l_ (h:=g_ (h:=w_ (ca (hc:=e_l1In _ _ _) (h:=g_ (h:=w_ (u_ (h:=?_))))))))))))
         )
       all_goals
        refine w_ (pk (h:=w_ (m_ (h:=?_))))
        refine gw_ (h1:=?_) (h2:=?_)
        rotate_right 1
        focus
         intro c23
         first
         | exact dn c23
         | (
          have d23 := c23;try simp at d23
          refine go_ (h:=go_ (h:=go_ (h:=go_ (h:=?_))))
          )
        rotate_right 1
        focus
         intro c23
         first
         | exact dn c23
         | (
          have d23 := c23;try simp at d23
          refine g_ (h:=w_ (f_ (h:=g_ (h:=w_ (l_ (h:=g_ (h:=w_ (ca (hc:=e_l1In _ _ _) (h:=g_ (h:=w_ (u_ (h:=?_))))))))))))
          )
        all_goals
         refine w_ (pk (h:=wo_nil (e_ (h:=?_))))
       all_goals first
       | (
        refine aft_normal ?_
        refine c_ (h1:=?_) (h2:=?_)
        rotate_right 1
        focus
         intro c24
         first
         | exact dn c24
         | (
          have d24 := c24;try simp at d24
          refine wc_skip (?_)
          )
        rotate_right 1
        focus
         intro c24
         first
         | exact dn c24
         | (
          have d24 := c24;try simp at d24
          refine wa_ (wc_region (w_ (a_ (h:=wo_nil (e_ (h:=aft_normal (wc_ret (?_))))))))
          )
        )
       )
     all_goals first | refine blk_normal ?_ | refine blk_ret ?_
     all_goals first
     | refine aft_ret ?_
     | (
      refine aft_normal ?_
      refine wa_ (wc_region (w_ (a_ (h:=wo_nil (e_ (h:=aft_normal (wc_ret (?_))))))))
      )
     )
    )
   )
  )
 all_goals (refine fin_ (hr:=(res_tmp rfl res_nil)) (h:=?_);(focus (clear hk G;simp only [Hid] at *;simp [stepC,faultN,widthN];grind [inI])))
theorem good_nil (pl : List Nd) : Good pl [] := fun n h => by simp at h
theorem step_ok {pl : List Nd} {d : Nd} {out : List Int} (hl : out.length < 2000000) (h : stepC pl d out = 0) : fitN d out.length := by
  unfold stepC at h
  split at h
  · cases h
  · split at h
    · cases h
    · split at h
      · cases h
      · rename_i h1 h2 h3
        exact fit_of hl (by simpa using h3)
theorem good_snoc {pl : List Nd} {d : Nd} {ws : List Int} (hk : okN pl) (hl : ws.length < 2000000) (G : Good pl ws) (hx : pl[ws.length]? = some d) (h : stepC pl d ws = 0) : Good pl (ws ++ [widthN d ws]) := by
  intro n hn
  by_cases hlt : n < ws.length
  · obtain ⟨e,h1,h2,h3⟩ := G n hlt
    refine ⟨e,h1,?_,h3⟩
    rw [List.take_append_of_le_length (by omega),← h2]
    simp only [at0,List.getD_eq_getElem?_getD]
    rw [List.getElem?_append_left (by omega)]
  · have : n = ws.length := by simp at hn;omega
    subst this
    refine ⟨d,hx,?_,step_ok hl h,hk d (List.mem_of_getElem? hx)⟩
    rw [List.take_left]
    simp [at0,List.getD_eq_getElem?_getD]
theorem l_planS (pl : List Nd) (hp : pl.length < 2000000) (hk : okN pl) : ∀ ws : List Int,(Good pl ws ∧ ws.length ≤ pl.length) → ∀ s,normE 1 (some [0,3]) s = ⟨[(0,.lst false 0 (nds false 0 pl)),(3,.int .i64 ws.length)],[],1⟩ →
 oc.loop 41 4 s = some (if (lookR pl (pl.drop ws.length) ws).2 = 0 then (.exit 0,⟨[],[],1⟩) else (.ret,⟨[(2,.int .i64 (lookR pl (pl.drop ws.length) ws).2)],[],1⟩)) := by
 refine loop_ind (σ:=List Int) (fun ws => pl.length - ws.length) _ (fun ws => ⟨[(0,.lst false 0 (nds false 0 pl)),(3,.int .i64 ws.length)],[],1⟩) _ ?_
 rintro ws ⟨G,hi⟩ ih s hs
 refine loop_s cd41 rfl rfl hs ?_
 refine wa_ (wa_ (wc_region (w_ (m_ (h:=w_ (m_ (h:=w_ (le (h:=w_ (b_ (h:=wo_nil (e_ (h:=aft_normal (?_))))))))))))))
 refine c_ (h1:=?_) (h2:=?_)
 rotate_right 1
 focus
  intro c1
  first
  | exact dn c1
  | (
   have d1 := c1;try simp at d1
   refine wc_exit (?_)
   )
 rotate_right 1
 focus
  intro c1
  first
  | exact dn c1
  | (
   have d1 := c1;try simp at d1
   have hw := wrap_succ (i:=ws.length) (by omega);obtain ⟨d,hx,e1,g1⟩ := nds_cut (t:=false) (s:=0) (l:=pl) (i:=ws.length) (by omega)
   refine wc_skip (?_)
   )
 all_goals first
 | refine aft_exit ?_
 | (
  refine aft_normal ?_
  refine wa_ (wc_block (wa_ (wc_region (w_ (m_ (h:=w_ (m_ (h:=w_ (ca (hc:=e_l3Node pl ws d hp hk G hx) (h:=w_ (a_ (h:=wo_nil (e_ (h:=aft_normal (wa_ (wc_region (w_ (m_ (h:=w_ (bE (h:=wo_nil (e_ (h:=aft_normal (?_))))))))))))))))))))))))
  refine c_ (h1:=?_) (h2:=?_)
  rotate_right 1
  focus
   intro c2
   first
   | exact dn c2
   | (
    have d2 := c2;try simp at d2
    refine wc_skip (?_)
    )
  rotate_right 1
  focus
   intro c2
   first
   | exact dn c2
   | (
    have d2 := c2;try simp at d2
    refine wa_ (wc_region (w_ (m_ (h:=w_ (a_ (h:=wo_nil (e_ (h:=aft_normal (wc_ret (?_))))))))))
    )
  all_goals first | refine blk_normal ?_ | refine blk_ret ?_
  all_goals first
  | refine aft_ret ?_
  | (
   refine aft_normal ?_
   refine wc_region (w_ (m_ (h:=w_ (b_ (h:=w_ (a_ (h:=wo_nil (e_ (h:=?_)))))))))
   )
  )
 all_goals first
 | (refine (ih (ws ++ [widthN d ws]) (⟨good_snoc hk (by omega) G hx d2,by simp;omega⟩) ?_ _ ?_).trans ?_;(focus (first | omega | (simp;done) | (simp;omega)));(focus (simp [normE,hw];done));(focus (rw [look_go e1 d2];simp)))
 | (apply end_leaf (ex:=Ext.ret) 1 (some [2]);(focus (simp [normE];rfl));(focus (rw [e1,lookR,if_neg d2];simp [d2])))
 | (apply end_leaf (ex:=(Ext.exit 0)) 1 (some [2]);(focus (simp [normE];rfl));(focus (rw [List.drop_eq_nil_of_le (by omega)];simp [lookR])))
theorem e_planS (pl : List Nd) (hp : pl.length < 2000000) (hk : okN pl) : oc.call 41 [.lst false 0 (nds false 0 pl)] = some (.int .i64 (lookN pl).2,[]) := by
 refine fun_s rfl cd41 rfl rfl rfl (by simp;rfl) (by simp;rfl) ?_
 refine wa_ (wc_region (w_ (a_ (h:=wo_nil (e_ (h:=aft_normal (wa_ (wa_ (wc_region (w_ (m_ (h:=w_ (le (h:=w_ (b_ (h:=w_ (m_ (h:=?_))))))))))))))))))
 refine gw_ (h1:=?_) (h2:=?_)
 rotate_right 1
 focus
  intro c1
  first
  | exact dn c1
  | (
   have d1 := c1;try simp at d1
   refine go_ (h:=go_ (h:=go_ (h:=?_)))
   )
 rotate_right 1
 focus
  intro c1
  first
  | exact dn c1
  | (
   have d1 := c1;try simp at d1
   refine g_ (h:=w_ (m_ (h:=g_ (h:=w_ (le (h:=g_ (h:=w_ (b_ (h:=?_)))))))))
   )
 all_goals
  refine w_ (pk (h:=wo_nil (e_ (h:=?_))))
 all_goals first
 | (
  refine aft_normal ?_
  refine c_ (h1:=?_) (h2:=?_)
  rotate_right 1
  focus
   intro c2
   first
   | exact dn c2
   | (
    have d2 := c2;try simp at d2
    refine wc_skip (?_)
    )
  rotate_right 1
  focus
   intro c2
   first
   | exact dn c2
   | (
    have d2 := c2;try simp at d2
    refine wa_ (wc_region (w_ (a_ (h:=wo_nil (e_ (h:=aft_normal (wc_ret (?_))))))))
    )
  )
 all_goals first
 | refine aft_ret ?_
 | (
  refine aft_normal ?_
  refine wa_ (wa_ (wc_region (w_ (a_ (h:=wo_nil (e_ (h:=aft_normal (wc_block (?_)))))))))
  refine wc_loopI (l_planS pl hp hk [] ⟨good_nil pl,by simp⟩ _ (by simp [normE])) ?_ ?_
  rotate_right 1
  focus
   intro c3
   first
   | exact dn c3
   | (
    have d3 := c3;try simp at d3
    skip
    )
  rotate_right 1
  focus
   intro c3
   first
   | exact dn c3
   | (
    have d3 := c3;try simp at d3
    skip
    )
  all_goals first | refine blk_ret ?_ | refine blk_exit ?_
  all_goals first
  | refine aft_ret ?_
  | (
   refine aft_normal ?_
   refine wa_ (wc_region (w_ (a_ (h:=wo_nil (e_ (h:=aft_normal (wc_ret (?_))))))))
   )
  )
 all_goals (refine fin_ (hr:=(res_tmp rfl res_nil)) (h:=?_);(focus (clear hk;first | (simp_all [lookN,inI];done) | (simp_all [lookN,inI] <;> grind))))
end Go.Proofs.YtadaeiahfidodaaGreat.Ev
namespace Go.Proofs.YtadaeiahfidodaaGreat.Ev
open Go
set_option maxRecDepth 100000
set_option linter.unusedSimpArgs false
set_option linter.unusedVariables false
set_option maxHeartbeats 2000000
def isPl (pl : List Nd) (a : Int) : Bool := inI a 0 (2 * (pl.length : Int) - 1)
theorem e_isPlace (pl : List Nd) (a : Int) (hp : pl.length < 2000000) : oc.call 132 [.lst false 0 (nds false 0 pl),.int .i64 a] = some (.bool (isPl pl a),[]) := by
 refine fun_s rfl cd132 rfl rfl rfl (by simp;rfl) (by simp;rfl) ?_
 have h1 : IntKind.i64.wrap (2 * (pl.length : Int)) = 2 * pl.length := wrap_id (by omega) (by omega)
 have h2 : IntKind.i64.wrap (2 * (pl.length : Int) - 1) = 2 * pl.length - 1 := wrap_id (by omega) (by omega)
 refine wa_ (wc_region (w_ (a_ (h:=wo_nil (e_ (h:=aft_normal (wa_ (wc_region (w_ (m_ (h:=w_ (m_ (h:=w_ (ca (hc:=e_sizeN _ _ (by simp;omega)) (h:=w_ (b_ (h:=w_ (b_ (h:=w_ (ca (hc:=e_in _ _ _) (h:=w_ (a_ (h:=wo_nil (e_ (h:=aft_normal (wc_ret (?_)))))))))))))))))))))))))))
 all_goals (refine fin_ (hr:=(res_tmp rfl res_nil)) (h:=?_);(focus (simp [isPl,h1,h2])))
theorem e_l7Place (pl : List Nd) (a : Int) (hp : pl.length < 2000000) : oc.call 126 [.lst false 0 (nds false 0 pl),.int .i64 a] = some (.bool (isPl pl a),[]) := by
 refine fun_s rfl cd126 rfl rfl rfl (by simp;rfl) (by simp;rfl) ?_
 have h1 : IntKind.i64.wrap (2 * (pl.length : Int)) = 2 * pl.length := wrap_id (by omega) (by omega)
 have h2 : IntKind.i64.wrap (2 * (pl.length : Int) - 1) = 2 * pl.length - 1 := wrap_id (by omega) (by omega)
 refine wa_ (wc_region (w_ (a_ (h:=wo_nil (e_ (h:=aft_normal (wa_ (wc_region (w_ (m_ (h:=w_ (m_ (h:=w_ (le (h:=w_ (b_ (h:=w_ (b_ (h:=w_ (ca (hc:=e_l1In _ _ _) (h:=w_ (a_ (h:=wo_nil (e_ (h:=aft_normal (wc_ret (?_)))))))))))))))))))))))))))
 all_goals (refine fin_ (hr:=(res_tmp rfl res_nil)) (h:=?_);(focus (simp [isPl,h1,h2])))
end Go.Proofs.YtadaeiahfidodaaGreat.Ev
namespace Go.Proofs.YtadaeiahfidodaaGreat.Ev
open Go
set_option maxRecDepth 100000
set_option linter.unusedSimpArgs false
set_option linter.unusedVariables false
set_option maxHeartbeats 2000000
end Go.Proofs.YtadaeiahfidodaaGreat.Ev
namespace Go.Proofs.YtadaeiahfidodaaGreat.Ev
open Go
set_option maxRecDepth 100000
set_option linter.unusedSimpArgs false
set_option linter.unusedVariables false
set_option maxHeartbeats 2000000
def Wf (pl : List Nd) : Prop := ∀ (n : Nat) d,pl[n]? = some d → fitN d n
theorem lookR_wf {pl : List Nd} (hp : pl.length < 2000000) : ∀ (r : List Nd) (ws : List Int),r = pl.drop ws.length → (lookR pl r ws).2 = 0 → ∀ (n : Nat) d,ws.length ≤ n → pl[n]? = some d → fitN d n
  | [],ws,e,_,n,d,hn,hd => by
    have : pl.length ≤ ws.length := by
      have := congrArg List.length e;simp at this;omega
    have := (List.getElem?_eq_some_iff.mp hd).1
    omega
  | x :: r,ws,e,h,n,d,hn,hd => by
    unfold lookR at h
    have hx : pl[ws.length]? = some x := by
      have := congrArg (fun l => l[0]?) e
      simpa using this.symm
    have hr : r = pl.drop (ws.length + 1) := by
      have := congrArg List.tail e
      simpa [List.tail_drop] using this
    split at h
    · rename_i hs
      by_cases hc : n = ws.length
      · subst hc
        rw [hx] at hd
        cases hd
        exact step_ok (by have := (List.getElem?_eq_some_iff.mp hx).1;omega) hs
      · exact lookR_wf hp r (ws ++ [widthN x ws]) (by simpa using hr) h n d (by simp;omega) hd
    · exact absurd h ‹_›
theorem look_wf {pl : List Nd} (h : (lookN pl).2 = 0) : Wf pl := by
  unfold lookN at h
  split at h
  · cases h
  · rename_i hl
    simp [inI] at hl
    split at h
    · exact fun n d hd => lookR_wf (by omega) pl [] rfl h n d (by simp) hd
    · exact absurd h ‹_›
end Go.Proofs.YtadaeiahfidodaaGreat.Ev
namespace Go.Proofs.YtadaeiahfidodaaGreat.Ev
open Go
set_option maxRecDepth 100000
set_option linter.unusedSimpArgs false
set_option linter.unusedVariables false
set_option maxHeartbeats 2000000
def cmpI (a b : Int) : Int := if a < b then -1 else if b < a then 1 else 0
theorem e_nan (a : Int) : oc.call 145 [.int .i64 a] = some (.bool false,[]) := by
 refine fun_s rfl cd145 rfl rfl rfl (by simp;rfl) (by simp;rfl) ?_
 refine wa_ (wc_region (w_ (a_ (h:=wo_nil (e_ (h:=aft_normal (wa_ (wc_region (w_ (m_ (h:=w_ (m_ (h:=w_ (bE (h:=w_ (a_ (h:=wo_nil (e_ (h:=aft_normal (wc_ret (?_)))))))))))))))))))))
 all_goals (refine fin_ (hr:=(res_tmp rfl res_nil)) (h:=?_);(focus (first | (simp_all;done) | (simp_all <;> omega) | (simp_all <;> split <;> simp_all <;> omega))))
theorem e_cmp (a b : Int) : oc.call 135 [.int .i64 a,.int .i64 b] = some (.int .i64 (cmpI a b),[]) := by
 refine fun_s rfl cd135 rfl rfl rfl (by simp;rfl) (by simp;rfl) ?_
 refine wa_ (wc_region (w_ (a_ (h:=wo_nil (e_ (h:=aft_normal (wa_ (wc_region (w_ (m_ (h:=w_ (ca (hc:=e_nan _) (h:=w_ (a_ (h:=wo_nil (e_ (h:=aft_normal (wa_ (wc_region (w_ (m_ (h:=w_ (ca (hc:=e_nan _) (h:=w_ (a_ (h:=wo_nil (e_ (h:=aft_normal (wa_ (wa_ (wc_region (w_ (m_ (h:=wo_nil (e_ (h:=aft_normal (?_)))))))))))))))))))))))))))))))))))))
 refine c_ (h1:=?_) (h2:=?_)
 rotate_right 1
 focus
  intro c1
  first
  | exact dn c1
  | (
   have d1 := c1;try simp at d1
   refine wc_skip (?_)
   )
 rotate_right 1
 focus
  intro c1
  first
  | exact dn c1
  | (
   have d1 := c1;try simp at d1
   refine wa_ (wa_ (wc_region (w_ (m_ (h:=wo_nil (e_ (h:=aft_normal (?_))))))))
   refine c_ (h1:=?_) (h2:=?_)
   rotate_right 1
   focus
    intro c2
    first
    | exact dn c2
    | (
     have d2 := c2;try simp at d2
     refine wc_skip (?_)
     )
   rotate_right 1
   focus
    intro c2
    first
    | exact dn c2
    | (
     have d2 := c2;try simp at d2
     refine wa_ (wc_region (w_ (a_ (h:=wo_nil (e_ (h:=aft_normal (wc_ret (?_))))))))
     )
   all_goals first
   | refine aft_ret ?_
   | (
    refine aft_normal ?_
    refine wa_ (wc_region (w_ (a_ (h:=wo_nil (e_ (h:=aft_normal (wc_ret (?_))))))))
    )
   )
 all_goals first
 | refine aft_ret ?_
 | (
  refine aft_normal ?_
  refine wa_ (wa_ (wc_region (w_ (m_ (h:=wo_nil (e_ (h:=aft_normal (?_))))))))
  refine c_ (h1:=?_) (h2:=?_)
  rotate_right 1
  focus
   intro c3
   first
   | exact dn c3
   | (
    have d3 := c3;try simp at d3
    refine wc_skip (?_)
    )
  rotate_right 1
  focus
   intro c3
   first
   | exact dn c3
   | (
    have d3 := c3;try simp at d3
    refine wa_ (wc_region (w_ (a_ (h:=wo_nil (e_ (h:=aft_normal (wc_ret (?_))))))))
    )
  all_goals first
  | refine aft_ret ?_
  | (
   refine aft_normal ?_
   refine wa_ (wa_ (wc_region (w_ (m_ (h:=w_ (m_ (h:=w_ (b_ (h:=wo_nil (e_ (h:=aft_normal (?_))))))))))))
   refine c_ (h1:=?_) (h2:=?_)
   rotate_right 1
   focus
    intro c4
    first
    | exact dn c4
    | (
     have d4 := c4;try simp at d4
     refine wc_skip (?_)
     )
   rotate_right 1
   focus
    intro c4
    first
    | exact dn c4
    | (
     have d4 := c4;try simp at d4
     refine wa_ (wc_region (w_ (a_ (h:=wo_nil (e_ (h:=aft_normal (wc_ret (?_))))))))
     )
   all_goals first
   | refine aft_ret ?_
   | (
    refine aft_normal ?_
    refine wa_ (wa_ (wc_region (w_ (m_ (h:=w_ (m_ (h:=w_ (b_ (h:=wo_nil (e_ (h:=aft_normal (?_))))))))))))
    refine c_ (h1:=?_) (h2:=?_)
    rotate_right 1
    focus
     intro c5
     first
     | exact dn c5
     | (
      have d5 := c5;try simp at d5
      refine wc_skip (?_)
      )
    rotate_right 1
    focus
     intro c5
     first
     | exact dn c5
     | (
      have d5 := c5;try simp at d5
      refine wa_ (wc_region (w_ (a_ (h:=wo_nil (e_ (h:=aft_normal (wc_ret (?_))))))))
      )
    all_goals first
    | refine aft_ret ?_
    | (
     refine aft_normal ?_
     refine wa_ (wc_region (w_ (a_ (h:=wo_nil (e_ (h:=aft_normal (wc_ret (?_))))))))
     )
    )
   )
  )
 all_goals (refine fin_ (hr:=(res_tmp rfl res_nil)) (h:=?_);(focus (simp [cmpI];grind)))
theorem l_or (a b : Int) : ∀ i : Nat,(i ≤ 2) → ∀ s,normE 1 (some [3,6,7,8]) s = ⟨[(3,.int .i64 0),(6,.lst false 0 (ints [a,b])),(7,.int .i64 2),(8,.int .i64 i)],[],1⟩ →
 oc.loop 134 3 s = some (if ([a,b].drop i).all (fun x => decide (x = 0)) = true then (.exit 0,⟨[(3,.int .i64 0)],[],1⟩) else (.ret,⟨[(2,.int .i64 (if i = 0 ∧ a ≠ 0 then a else b)),(3,.int .i64 0)],[],1⟩)) := by
 refine loop_ind (σ:=Nat) (fun i => 2 - i) _ (fun i => ⟨[(3,.int .i64 0),(6,.lst false 0 (ints [a,b])),(7,.int .i64 2),(8,.int .i64 i)],[],1⟩) _ ?_
 intro i hi ih s hs
 refine loop_s cd134 rfl rfl hs ?_
 refine wa_ (wc_region (w_ (b_ (h:=wo_nil (e_ (h:=aft_normal (wa_ (?_))))))))
 refine c_ (h1:=?_) (h2:=?_)
 rotate_right 1
 focus
  intro c1
  first
  | exact dn c1
  | (
   have d1 := c1;try simp at d1
   have : i = 2 := (by omega);subst this
   refine wc_exit (?_)
   )
 rotate_right 1
 focus
  intro c1
  first
  | exact dn c1
  | (
   have d1 := c1;try simp at d1
   have hw := wrap_succ (i:=i) (by omega);obtain ⟨x,hx,e1,g1⟩ := ints_cut (l:=[a,b]) (i:=i) (by simp;omega)
   refine wc_skip (?_)
   )
 all_goals first
 | refine aft_exit ?_
 | (
  refine aft_normal ?_
  refine wa_ (wc_block (wa_ (wc_region (w_ (x_ (h:=w_ (l_ (h:=w_ (a_ (h:=wo_nil (e_ (h:=aft_normal (wa_ (wc_region (w_ (m_ (h:=w_ (m_ (h:=w_ (bE (h:=wo_nil (e_ (h:=aft_normal (?_))))))))))))))))))))))))
  refine c_ (h1:=?_) (h2:=?_)
  rotate_right 1
  focus
   intro c2
   first
   | exact dn c2
   | (
    have d2 := c2;try simp at d2
    refine wc_skip (?_)
    )
  rotate_right 1
  focus
   intro c2
   first
   | exact dn c2
   | (
    have d2 := c2;try simp at d2
    refine wa_ (wc_region (w_ (m_ (h:=w_ (a_ (h:=wo_nil (e_ (h:=aft_normal (wc_ret (?_))))))))))
    )
  all_goals first | refine blk_normal ?_ | refine blk_ret ?_
  all_goals first
  | refine aft_ret ?_
  | (
   refine aft_normal ?_
   refine wc_region (w_ (b_ (h:=w_ (m_ (h:=wo_nil (e_ (h:=?_)))))))
   )
  )
 all_goals first
 | (refine (ih (i + 1) (by omega) ?_ _ ?_).trans ?_;(focus (first | omega | (simp;done) | (simp;omega)));(focus (simp [normE,hw];done));(focus (rcases i with _ | _ | i <;> simp at * <;> grind)))
 | (apply end_leaf (ex:=Ext.ret) 1 (some [2,3]);(focus (simp [normE];rfl));(focus (rcases i with _ | _ | i <;> simp at * <;> grind)))
 | (apply end_leaf (ex:=(Ext.exit 0)) 1 (some [2,3]);(focus (simp [normE];rfl));(focus (simp)))
theorem e_or (a b : Int) : oc.call 134 [.lst false 0 (ints [a,b])] = some (.int .i64 (if a = 0 then b else a),[]) := by
 refine fun_s rfl cd134 rfl rfl rfl (by simp;rfl) (by simp;rfl) ?_
 refine wa_ (wc_region (w_ (a_ (h:=wo_nil (e_ (h:=aft_normal (wa_ (wc_region (w_ (a_ (h:=wo_nil (e_ (h:=aft_normal (wa_ (wa_ (wc_region (w_ (m_ (h:=w_ (le (h:=w_ (m_ (h:=wo_nil (e_ (h:=aft_normal (wc_block (?_)))))))))))))))))))))))))))
 refine wc_loopI (l_or a b 0 (by omega) _ (by simp [normE])) ?_ ?_
 rotate_right 1
 focus
  intro c1
  skip
 rotate_right 1
 focus
  intro c1
  skip
 all_goals first | refine blk_ret ?_ | refine blk_exit ?_
 all_goals first
 | refine aft_ret ?_
 | (
  refine aft_normal ?_
  refine wa_ (wc_region (w_ (m_ (h:=w_ (a_ (h:=wo_nil (e_ (h:=aft_normal (wc_ret (?_))))))))))
  )
 all_goals (refine fin_ (hr:=(res_tmp rfl res_nil)) (h:=?_);(focus (simp at * <;> grind)))
def byC (a b : Ct) : Int := if cmpI a.pl b.pl = 0 then cmpI a.ep b.ep else cmpI a.pl b.pl
theorem e_byC (a b : Ct) : oc.call 116 [a.v,b.v] = some (.int .i64 (byC a b),[]) := by
 refine fun_s rfl cd116 rfl rfl rfl (by simp;rfl) (by simp;rfl) ?_
 refine wa_ (wc_region (w_ (bx (h:=w_ (bx (h:=w_ (a_ (h:=wo_nil (e_ (h:=aft_normal (wa_ (wc_draw (y_ (f_ (h:=ax_ (h:=y_ (l_ (h:=ax_ (h:=y_ (f_ (h:=ax_ (h:=y_ (l_ (h:=ax_ (h:=y_ (ca (hc:=e_cmp _ _) (h:=ax_ (h:=y_ (f_ (h:=ax_ (h:=y_ (l_ (h:=ax_ (h:=y_ (f_ (h:=ax_ (h:=y_ (l_ (h:=ax_ (h:=y_ (ca (hc:=e_cmp _ _) (h:=ax_ (h:=y_ (bs (h:=ax_ (h:=y_ (ca (hc:=e_or _ _) (h:=ax_ (h:=y_ (a_ (h:=ax_ (h:=wo_nil (ed (h:=aft_normal (wc_ret (?_))))))))))))))))))))))))))))))))))))))))))))))))))))))))
 all_goals (refine fin_ (hr:=(res_tmp rfl res_nil)) (h:=?_);(focus (simp [byC])))
def ahead (a b : Ct) : Bool := if a.pl = b.pl then decide (a.ep < b.ep) else decide (a.pl < b.pl)
theorem e_ahead (a b : Ct) : oc.call 101 [a.v,b.v] = some (.bool (ahead a b),[]) := by
 refine fun_s rfl cd101 rfl rfl rfl (by simp;rfl) (by simp;rfl) ?_
 refine wa_ (wc_region (w_ (bx (h:=w_ (bx (h:=w_ (a_ (h:=wo_nil (e_ (h:=aft_normal (wa_ (wa_ (wc_region (w_ (f_ (h:=w_ (l_ (h:=w_ (f_ (h:=w_ (l_ (h:=w_ (bE (h:=wo_nil (e_ (h:=aft_normal (?_)))))))))))))))))))))))))))
 refine c_ (h1:=?_) (h2:=?_)
 rotate_right 1
 focus
  intro c1
  refine wc_skip (?_)
 rotate_right 1
 focus
  intro c1
  refine wa_ (wc_region (w_ (f_ (h:=w_ (l_ (h:=w_ (f_ (h:=w_ (l_ (h:=w_ (b_ (h:=w_ (a_ (h:=wo_nil (e_ (h:=aft_normal (wc_ret (?_))))))))))))))))))
 all_goals first
 | refine aft_ret ?_
 | (
  refine aft_normal ?_
  refine wa_ (wc_region (w_ (f_ (h:=w_ (l_ (h:=w_ (f_ (h:=w_ (l_ (h:=w_ (b_ (h:=w_ (a_ (h:=wo_nil (e_ (h:=aft_normal (wc_ret (?_))))))))))))))))))
  )
 all_goals (refine fin_ (hr:=(res_tmp rfl res_nil)) (h:=?_);(focus (simp [ahead] at * <;> grind)))
theorem byC_ahead (a b : Ct) : (0 ≤ byC a b) = (ahead a b = false) := by
  simp only [byC,cmpI,ahead];grind
theorem ahead_f {a b : Ct} (h : 0 ≤ byC a b) : ahead a b = false := by rw [byC_ahead] at h;exact h
theorem ahead_t {a b : Ct} (h : byC a b < 0) : ahead a b = true := by
  cases h2 : ahead a b with
  | true => rfl
  | false => rw [← byC_ahead] at h2;omega
def rightC (pl : List Nd) (c : Ct) : Bool := isPl pl c.pl && (inI c.ep 0 1000 && inI c.n (-1000000000000) 1000000000000)
theorem e_isCount (pl : List Nd) (c : Ct) (hp : pl.length < 2000000) : oc.call 115 [.lst false 0 (nds false 0 pl),c.v] = some (.bool (rightC pl c),[]) := by
 refine fun_s rfl cd115 rfl rfl rfl (by simp;rfl) (by simp;rfl) ?_
 refine wa_ (wc_region (w_ (bx (h:=w_ (a_ (h:=wo_nil (e_ (h:=aft_normal (wa_ (wc_region (w_ (m_ (h:=w_ (f_ (h:=w_ (l_ (h:=w_ (ca (hc:=e_isPlace pl _ hp) (h:=w_ (m_ (h:=?_)))))))))))))))))))))
 refine gw_ (h1:=?_) (h2:=?_)
 rotate_right 1
 focus
  intro c1
  refine go_ (h:=go_ (h:=go_ (h:=?_)))
 rotate_right 1
 focus
  intro c1
  refine g_ (h:=w_ (f_ (h:=g_ (h:=w_ (l_ (h:=g_ (h:=w_ (ca (hc:=e_in _ _ _) (h:=?_)))))))))
 all_goals
  refine w_ (pk (h:=w_ (m_ (h:=?_))))
  refine gw_ (h1:=?_) (h2:=?_)
  rotate_right 1
  focus
   intro c2
   refine go_ (h:=go_ (h:=go_ (h:=?_)))
  rotate_right 1
  focus
   intro c2
   refine g_ (h:=w_ (f_ (h:=g_ (h:=w_ (l_ (h:=g_ (h:=w_ (ca (hc:=e_isWeight _) (h:=?_)))))))))
  all_goals
   refine w_ (pk (h:=w_ (a_ (h:=wo_nil (e_ (h:=?_))))))
 all_goals first
 | (
  refine aft_normal ?_
  refine wc_ret (?_)
  )
 all_goals (refine fin_ (hr:=(res_tmp rfl res_nil)) (h:=?_);(focus (simp [rightC] at * <;> grind)))
theorem e_l7Right (pl : List Nd) (c : Ct) (hp : pl.length < 2000000) : oc.call 100 [.lst false 0 (nds false 0 pl),c.v] = some (.bool (rightC pl c),[]) := by
 refine fun_s rfl cd100 rfl rfl rfl (by simp;rfl) (by simp;rfl) ?_
 refine wa_ (wc_region (w_ (bx (h:=w_ (a_ (h:=wo_nil (e_ (h:=aft_normal (wa_ (wc_region (w_ (m_ (h:=w_ (f_ (h:=w_ (l_ (h:=w_ (ca (hc:=e_l7Place pl _ hp) (h:=w_ (m_ (h:=?_)))))))))))))))))))))
 refine gw_ (h1:=?_) (h2:=?_)
 rotate_right 1
 focus
  intro c1
  refine go_ (h:=go_ (h:=go_ (h:=?_)))
 rotate_right 1
 focus
  intro c1
  refine g_ (h:=w_ (f_ (h:=g_ (h:=w_ (l_ (h:=g_ (h:=w_ (ca (hc:=e_l1In _ _ _) (h:=?_)))))))))
 all_goals
  refine w_ (pk (h:=w_ (m_ (h:=?_))))
  refine gw_ (h1:=?_) (h2:=?_)
  rotate_right 1
  focus
   intro c2
   refine go_ (h:=go_ (h:=go_ (h:=?_)))
  rotate_right 1
  focus
   intro c2
   refine g_ (h:=w_ (f_ (h:=g_ (h:=w_ (l_ (h:=g_ (h:=w_ (ca (hc:=e_l1Weight _) (h:=?_)))))))))
  all_goals
   refine w_ (pk (h:=w_ (a_ (h:=wo_nil (e_ (h:=?_))))))
 all_goals first
 | (
  refine aft_normal ?_
  refine wc_ret (?_)
  )
 all_goals (refine fin_ (hr:=(res_tmp rfl res_nil)) (h:=?_);(focus (simp [rightC] at * <;> grind)))
def ctsR (pl : List Nd) : Option Ct → List Ct → Int
  | _,[] => 0
  | p,c :: r => if rightC pl c = false ∨ c.n = 0 then 3 else if (p.elim false fun q => !ahead q c) = true then 1 else ctsR pl (some c) r
def prevAt (l : List Ct) (i : Nat) : Option Ct := if i = 0 then none else l[i - 1]?
theorem prevAt_succ {l : List Ct} {i : Nat} {c : Ct} (h : l[i]? = some c) : prevAt l (i + 1) = some c := by simp [prevAt,h]
theorem prevAt_pos {l : List Ct} {i : Nat} (h0 : 0 < i) (h : i ≤ l.length) (hi : i < 2000000000) : ∃ q,prevAt l i = some q ∧ (cts l)[(IntKind.i64.wrap ((i : Int) - 1)).toNat]? = some q.v ∧ 0 ≤ IntKind.i64.wrap ((i : Int) - 1) := by
  have hw : IntKind.i64.wrap ((i : Int) - 1) = ((i - 1 : Nat) : Int) := by rw [wrap_id (by omega) (by omega)];omega
  have hlt : i - 1 < l.length := by omega
  refine ⟨l[i - 1],?_,?_,by rw [hw];omega⟩
  · unfold prevAt;rw [if_neg (by omega)];simp [hlt]
  · rw [hw];exact cts_at hlt
def ctsF (pl : List Nd) (l : List Ct) : Int := if 200 < l.length then 2 else ctsR pl none l
theorem ctsR_3 {pl : List Nd} {p : Option Ct} {c : Ct} {r : List Ct} (h : rightC pl c = false ∨ c.n = 0) : ctsR pl p (c :: r) = 3 := by rw [ctsR,if_pos h]
theorem ctsR_1 {pl : List Nd} {p : Option Ct} {c : Ct} {r : List Ct} (h : ¬ (rightC pl c = false ∨ c.n = 0)) (h2 : (p.elim false fun q => !ahead q c) = true) : ctsR pl p (c :: r) = 1 := by rw [ctsR,if_neg h,if_pos h2]
theorem ctsR_0 {pl : List Nd} {p : Option Ct} {c : Ct} {r : List Ct} (h : ¬ (rightC pl c = false ∨ c.n = 0)) (h2 : ¬ (p.elim false fun q => !ahead q c) = true) : ctsR pl p (c :: r) = ctsR pl (some c) r := by rw [ctsR,if_neg h,if_neg h2]
theorem l_ctsI (pl : List Nd) (l : List Ct) (hp : pl.length < 2000000) (hl : l.length ≤ 200) : ∀ i : Nat,(i ≤ l.length) → ∀ s,normE 2 (some [0,1,10,11,12]) s = ⟨[(0,.lst false 0 (nds false 0 pl)),(1,.lst false 0 (cts l)),(10,.lst false 0 (cts l)),(11,.int .i64 l.length),(12,.int .i64 i)],[],2⟩ →
 oc.loop 84 4 s = some (if ctsR pl (prevAt l i) (l.drop i) = 0 then (.exit 0,⟨[],[],2⟩) else (.ret,⟨[(4,.int .i64 (ctsR pl (prevAt l i) (l.drop i)))],[],2⟩)) := by
 refine loop_ind (σ:=Nat) (fun i => l.length - i) _ (fun i => ⟨[(0,.lst false 0 (nds false 0 pl)),(1,.lst false 0 (cts l)),(10,.lst false 0 (cts l)),(11,.int .i64 l.length),(12,.int .i64 i)],[],2⟩) _ ?_
 intro i hi ih s hs
 refine loop_s cd84 rfl rfl hs ?_
 refine wa_ (wc_region (w_ (b_ (h:=wo_nil (e_ (h:=aft_normal (wa_ (?_))))))))
 refine c_ (h1:=?_) (h2:=?_)
 rotate_right 1
 focus
  intro c1
  first
  | exact dn c1
  | (
   have d1 := c1;try simp at d1
   refine wc_exit (?_)
   )
 rotate_right 1
 focus
  intro c1
  first
  | exact dn c1
  | (
   have d1 := c1;try simp at d1
   have hw := wrap_succ (i:=i) (by omega);obtain ⟨c,hx,e1,g1⟩ := cts_cut (l:=l) (i:=i) (by omega);have hs1 := prevAt_succ hx
   refine wc_skip (?_)
   )
 all_goals first
 | refine aft_exit ?_
 | (
  refine aft_normal ?_
  refine wa_ (wc_block (wa_ (wc_region (w_ (m_ (h:=w_ (x_ (h:=w_ (l_ (h:=w_ (al (h:=w_ (a_ (h:=w0 (s_ (h:=wo_nil (e_ (h:=aft_normal (wa_ (wa_ (wc_region (w_ (m_ (h:=w_ (l_ (h:=w_ (ca (hc:=e_isCount pl c hp) (h:=w_ (u_ (h:=w_ (m_ (h:=?_))))))))))))))))))))))))))))))))
  refine gw_ (h1:=?_) (h2:=?_)
  rotate_right 1
  focus
   intro c2
   first
   | exact dn c2
   | (
    have d2 := c2;try simp at d2
    refine go_ (h:=go_ (h:=go_ (h:=?_)))
    )
  rotate_right 1
  focus
   intro c2
   first
   | exact dn c2
   | (
    have d2 := c2;try simp at d2
    refine g_ (h:=w_ (f_ (h:=g_ (h:=w_ (l_ (h:=g_ (h:=w_ (bE (h:=?_)))))))))
    )
  all_goals
   refine w_ (pk (h:=wo_nil (e_ (h:=?_))))
  all_goals first
  | (
   refine aft_normal ?_
   refine c_ (h1:=?_) (h2:=?_)
   rotate_right 1
   focus
    intro c3
    first
    | exact dn c3
    | (
     have d3 := c3;try simp at d3
     refine wc_skip (?_)
     )
   rotate_right 1
   focus
    intro c3
    first
    | exact dn c3
    | (
     have d3 := c3;try simp at d3
     refine wa_ (wc_region (w_ (a_ (h:=wo_nil (e_ (h:=aft_normal (wc_ret (?_))))))))
     )
   )
  all_goals first
  | refine aft_ret ?_
  | (
   refine aft_normal ?_
   refine wa_ (wc_draw (y_ (m_ (h:=ax_ (h:=y_ (b_ (h:=ax_ (h:=y_ (m_ (h:=ax_ (h:=?_)))))))))))
   refine gw_ (h1:=?_) (h2:=?_)
   rotate_right 1
   focus
    intro c4
    first
    | exact dn c4
    | (
     have d4 := c4;try simp at d4
     refine gd_ (h:=gd_ (h:=gd_ (h:=gd_ (h:=gd_ (h:=gd_ (h:=gd_ (h:=gd_ (h:=?_))))))))
     )
   rotate_right 1
   focus
    intro c4
    first
    | exact dn c4
    | (
     have d4 := c4;try simp at d4
     obtain ⟨q,hq,g2,g3⟩ := prevAt_pos (l:=l) (i:=i) (by omega) (by omega) (by omega)
     refine g_ (h:=y_ (m_ (h:=ax_ (h:=g_ (h:=y_ (m_ (h:=ax_ (h:=g_ (h:=y_ (b_ (h:=ax_ (h:=g_ (h:=y_ (x_ (h:=ax_ (h:=g_ (h:=y_ (l_ (h:=ax_ (h:=g_ (h:=y_ (l_ (h:=ax_ (h:=g_ (h:=y_ (ca (hc:=e_byC q c) (h:=ax_ (h:=g_ (h:=y_ (b_ (h:=ax_ (h:=?_))))))))))))))))))))))))))))))))
     )
   all_goals
    refine y_ (pk (h:=ax_ (h:=wo_nil (ed (h:=?_)))))
   all_goals first
   | (
    refine aft_normal ?_
    refine c_ (h1:=?_) (h2:=?_)
    rotate_right 1
    focus
     intro c5
     first
     | exact dn c5
     | (
      have d5 := c5;try simp at d5
      refine wc_skip (?_)
      )
    rotate_right 1
    focus
     intro c5
     first
     | exact dn c5
     | (
      have d5 := c5;try simp at d5
      refine wa_ (wc_region (w_ (a_ (h:=wo_nil (e_ (h:=aft_normal (wc_ret (?_))))))))
      )
    )
   )
  all_goals first | refine blk_normal ?_ | refine blk_ret ?_
  all_goals first
  | refine aft_ret ?_
  | (
   refine aft_normal ?_
   refine wc_region (w_ (b_ (h:=w_ (m_ (h:=wo_nil (e_ (h:=?_)))))))
   )
  )
 all_goals first
 | (refine (ih (i + 1) (by omega) ?_ _ ?_).trans ?_;(focus (first | omega | (simp;done) | (simp;omega)));(focus (simp [normE,hw];done));(focus (rw [hs1,e1,ctsR_0 (by simp [d2,d3]) (by first | (rw [hq];simp [ahead_t d5];done) | (subst d4;simp [prevAt]))])))
 | (apply end_leaf (ex:=Ext.ret) 2 (some [4]);(focus (simp [normE];rfl));(focus (rw [e1,ctsR_3 (by first | exact .inl d2 | exact .inr d3)];simp)))
 | (apply end_leaf (ex:=Ext.ret) 2 (some [4]);(focus (simp [normE];rfl));(focus (rw [e1,ctsR_1 (by simp [d2,d3]) (by rw [hq];simp [ahead_f d5])];simp)))
 | (apply end_leaf (ex:=(Ext.exit 0)) 2 (some [4]);(focus (simp [normE];rfl));(focus (rw [List.drop_eq_nil_of_le (by omega)];simp [ctsR])))
theorem e_ctsF (pl : List Nd) (l : List Ct) (hp : pl.length < 2000000) : oc.call 84 [.lst false 0 (nds false 0 pl),.lst false 0 (cts l)] = some (.int .i64 (ctsF pl l),[]) := by
 refine fun_s rfl cd84 rfl rfl rfl (by simp;rfl) (by simp;rfl) ?_
 refine wa_ (wc_region (w_ (a_ (h:=wo_nil (e_ (h:=aft_normal (wa_ (wa_ (wc_region (w_ (m_ (h:=w_ (le (h:=w_ (b_ (h:=wo_nil (e_ (h:=aft_normal (?_)))))))))))))))))))
 refine c_ (h1:=?_) (h2:=?_)
 rotate_right 1
 focus
  intro c1
  first
  | exact dn c1
  | (
   have d1 := c1;try simp at d1
   refine wc_skip (?_)
   )
 rotate_right 1
 focus
  intro c1
  first
  | exact dn c1
  | (
   have d1 := c1;try simp at d1
   refine wa_ (wc_region (w_ (a_ (h:=wo_nil (e_ (h:=aft_normal (wc_ret (?_))))))))
   )
 all_goals first
 | refine aft_ret ?_
 | (
  refine aft_normal ?_
  refine wa_ (wa_ (wc_region (w_ (m_ (h:=w_ (le (h:=w_ (m_ (h:=wo_nil (e_ (h:=aft_normal (wc_block (?_)))))))))))))
  refine wc_loopI (l_ctsI pl l hp (by omega) 0 (by omega) _ (by simp [normE])) ?_ ?_
  rotate_right 1
  focus
   intro c2
   first
   | exact dn c2
   | (
    have d2 := c2;try simp at d2
    skip
    )
  rotate_right 1
  focus
   intro c2
   first
   | exact dn c2
   | (
    have d2 := c2;try simp at d2
    skip
    )
  all_goals first | refine blk_ret ?_ | refine blk_exit ?_
  all_goals first
  | refine aft_ret ?_
  | (
   refine aft_normal ?_
   refine wa_ (wc_region (w_ (a_ (h:=wo_nil (e_ (h:=aft_normal (wc_ret (?_))))))))
   )
  )
 all_goals (refine fin_ (hr:=(res_tmp rfl res_nil)) (h:=?_);(focus (simp [ctsF,prevAt] at * <;> grind)))
theorem l_ctsS (pl : List Nd) (l : List Ct) (hp : pl.length < 2000000) (hl : l.length ≤ 200) : ∀ i : Nat,(i ≤ l.length) → ∀ s,normE 2 (some [0,1,6]) s = ⟨[(0,.lst false 0 (nds false 0 pl)),(1,.lst false 0 (cts l)),(6,.int .i64 i)],[],2⟩ →
 oc.loop 69 7 s = some (if ctsR pl (prevAt l i) (l.drop i) = 0 then (.exit 0,⟨[],[],2⟩) else (.ret,⟨[(4,.int .i64 (ctsR pl (prevAt l i) (l.drop i)))],[],2⟩)) := by
 refine loop_ind (σ:=Nat) (fun i => l.length - i) _ (fun i => ⟨[(0,.lst false 0 (nds false 0 pl)),(1,.lst false 0 (cts l)),(6,.int .i64 i)],[],2⟩) _ ?_
 intro i hi ih s hs
 refine loop_s cd69 rfl rfl hs ?_
 refine wa_ (wa_ (wc_region (w_ (m_ (h:=w_ (m_ (h:=w_ (le (h:=w_ (b_ (h:=wo_nil (e_ (h:=aft_normal (?_))))))))))))))
 refine c_ (h1:=?_) (h2:=?_)
 rotate_right 1
 focus
  intro c1
  first
  | exact dn c1
  | (
   have d1 := c1;try simp at d1
   refine wc_exit (?_)
   )
 rotate_right 1
 focus
  intro c1
  first
  | exact dn c1
  | (
   have d1 := c1;try simp at d1
   have hw := wrap_succ (i:=i) (by omega);obtain ⟨c,hx,e1,g1⟩ := cts_cut (l:=l) (i:=i) (by omega);have hs1 := prevAt_succ hx
   refine wc_skip (?_)
   )
 all_goals first
 | refine aft_exit ?_
 | (
  refine aft_normal ?_
  refine wa_ (wc_block (wa_ (wa_ (wc_region (w_ (m_ (h:=w_ (m_ (h:=w_ (m_ (h:=w_ (x_ (h:=w_ (l_ (h:=w_ (ca (hc:=e_l7Right pl c hp) (h:=w_ (u_ (h:=w_ (m_ (h:=?_)))))))))))))))))))))
  refine gw_ (h1:=?_) (h2:=?_)
  rotate_right 1
  focus
   intro c2
   first
   | exact dn c2
   | (
    have d2 := c2;try simp at d2
    refine go_ (h:=go_ (h:=go_ (h:=go_ (h:=go_ (h:=go_ (h:=?_))))))
    )
  rotate_right 1
  focus
   intro c2
   first
   | exact dn c2
   | (
    have d2 := c2;try simp at d2
    refine g_ (h:=w_ (m_ (h:=g_ (h:=w_ (m_ (h:=g_ (h:=w_ (x_ (h:=g_ (h:=w_ (f_ (h:=g_ (h:=w_ (l_ (h:=g_ (h:=w_ (bE (h:=?_))))))))))))))))))
    )
  all_goals
   refine w_ (pk (h:=wo_nil (e_ (h:=?_))))
  all_goals first
  | (
   refine aft_normal ?_
   refine c_ (h1:=?_) (h2:=?_)
   rotate_right 1
   focus
    intro c3
    first
    | exact dn c3
    | (
     have d3 := c3;try simp at d3
     refine wc_skip (?_)
     )
   rotate_right 1
   focus
    intro c3
    first
    | exact dn c3
    | (
     have d3 := c3;try simp at d3
     refine wa_ (wc_region (w_ (a_ (h:=wo_nil (e_ (h:=aft_normal (wc_ret (?_))))))))
     )
   )
  all_goals first
  | refine aft_ret ?_
  | (
   refine aft_normal ?_
   refine wa_ (wc_draw (y_ (m_ (h:=ax_ (h:=y_ (b_ (h:=ax_ (h:=y_ (m_ (h:=ax_ (h:=?_)))))))))))
   refine gw_ (h1:=?_) (h2:=?_)
   rotate_right 1
   focus
    intro c4
    first
    | exact dn c4
    | (
     have d4 := c4;try simp at d4
     refine gd_ (h:=gd_ (h:=gd_ (h:=gd_ (h:=gd_ (h:=gd_ (h:=gd_ (h:=gd_ (h:=gd_ (h:=gd_ (h:=gd_ (h:=?_)))))))))))
     )
   rotate_right 1
   focus
    intro c4
    first
    | exact dn c4
    | (
     have d4 := c4;try simp at d4
     obtain ⟨q,hq,g2,g3⟩ := prevAt_pos (l:=l) (i:=i) (by omega) (by omega) (by omega)
     refine g_ (h:=y_ (m_ (h:=ax_ (h:=g_ (h:=y_ (m_ (h:=ax_ (h:=g_ (h:=y_ (b_ (h:=ax_ (h:=g_ (h:=y_ (x_ (h:=ax_ (h:=g_ (h:=y_ (l_ (h:=ax_ (h:=g_ (h:=y_ (m_ (h:=ax_ (h:=g_ (h:=y_ (m_ (h:=ax_ (h:=g_ (h:=y_ (x_ (h:=ax_ (h:=g_ (h:=y_ (l_ (h:=ax_ (h:=g_ (h:=y_ (ca (hc:=e_ahead q c) (h:=ax_ (h:=g_ (h:=y_ (u_ (h:=ax_ (h:=?_))))))))))))))))))))))))))))))))))))))))))))
     )
   all_goals
    refine y_ (pk (h:=ax_ (h:=wo_nil (ed (h:=?_)))))
   all_goals first
   | (
    refine aft_normal ?_
    refine c_ (h1:=?_) (h2:=?_)
    rotate_right 1
    focus
     intro c5
     first
     | exact dn c5
     | (
      have d5 := c5;try simp at d5
      refine wc_skip (?_)
      )
    rotate_right 1
    focus
     intro c5
     first
     | exact dn c5
     | (
      have d5 := c5;try simp at d5
      refine wa_ (wc_region (w_ (a_ (h:=wo_nil (e_ (h:=aft_normal (wc_ret (?_))))))))
      )
    )
   )
  all_goals first | refine blk_normal ?_ | refine blk_ret ?_
  all_goals first
  | refine aft_ret ?_
  | (
   refine aft_normal ?_
   refine wc_region (w_ (m_ (h:=w_ (b_ (h:=w_ (a_ (h:=wo_nil (e_ (h:=?_)))))))))
   )
  )
 all_goals first
 | (refine (ih (i + 1) (by omega) ?_ _ ?_).trans ?_;(focus (first | omega | (simp;done) | (simp;omega)));(focus (simp [normE,hw];done));(focus (rw [hs1,e1,ctsR_0 (by simp [d2,d3]) (by first | (rw [hq];simp [d5];done) | (subst d4;simp [prevAt]))])))
 | (apply end_leaf (ex:=Ext.ret) 2 (some [4]);(focus (simp [normE];rfl));(focus (rw [e1,ctsR_3 (by first | exact .inl d2 | exact .inr d3)];simp)))
 | (apply end_leaf (ex:=Ext.ret) 2 (some [4]);(focus (simp [normE];rfl));(focus (rw [e1,ctsR_1 (by simp [d2,d3]) (by rw [hq];simp [d5])];simp)))
 | (apply end_leaf (ex:=(Ext.exit 0)) 2 (some [4]);(focus (simp [normE];rfl));(focus (rw [List.drop_eq_nil_of_le (by omega)];simp [ctsR])))
def ctsN (pl : List Nd) (l : List Ct) : Int := if (lookN pl).2 = 0 then ctsF pl l else (lookN pl).2
theorem e_ctsFS (pl : List Nd) (l : List Ct) (hp : pl.length < 2000000) (hk : okN pl) : oc.call 69 [.lst false 0 (nds false 0 pl),.lst false 0 (cts l)] = some (.int .i64 (ctsN pl l),[]) := by
 refine fun_s rfl cd69 rfl rfl rfl (by simp;rfl) (by simp;rfl) ?_
 refine wa_ (wc_region (w_ (a_ (h:=wo_nil (e_ (h:=aft_normal (wa_ (wa_ (wc_region (w_ (m_ (h:=w_ (ca (hc:=e_planS pl hp hk) (h:=w_ (a_ (h:=wo_nil (e_ (h:=aft_normal (wa_ (wc_region (w_ (m_ (h:=w_ (bE (h:=wo_nil (e_ (h:=aft_normal (?_))))))))))))))))))))))))))))
 refine c_ (h1:=?_) (h2:=?_)
 rotate_right 1
 focus
  intro c1
  first
  | exact dn c1
  | (
   have d1 := c1;try simp at d1
   refine wc_skip (?_)
   )
 rotate_right 1
 focus
  intro c1
  first
  | exact dn c1
  | (
   have d1 := c1;try simp at d1
   refine wa_ (wc_region (w_ (m_ (h:=w_ (a_ (h:=wo_nil (e_ (h:=aft_normal (wc_ret (?_))))))))))
   )
 all_goals first
 | refine aft_ret ?_
 | (
  refine aft_normal ?_
  refine wa_ (wa_ (wc_region (w_ (m_ (h:=w_ (le (h:=w_ (b_ (h:=wo_nil (e_ (h:=aft_normal (?_))))))))))))
  refine c_ (h1:=?_) (h2:=?_)
  rotate_right 1
  focus
   intro c2
   first
   | exact dn c2
   | (
    have d2 := c2;try simp at d2
    refine wc_skip (?_)
    )
  rotate_right 1
  focus
   intro c2
   first
   | exact dn c2
   | (
    have d2 := c2;try simp at d2
    refine wa_ (wc_region (w_ (a_ (h:=wo_nil (e_ (h:=aft_normal (wc_ret (?_))))))))
    )
  all_goals first
  | refine aft_ret ?_
  | (
   refine aft_normal ?_
   refine wa_ (wa_ (wc_region (w_ (a_ (h:=wo_nil (e_ (h:=aft_normal (wc_block (?_)))))))))
   refine wc_loopI (l_ctsS pl l hp (by omega) 0 (by omega) _ (by simp [normE])) ?_ ?_
   rotate_right 1
   focus
    intro c3
    first
    | exact dn c3
    | (
     have d3 := c3;try simp at d3
     skip
     )
   rotate_right 1
   focus
    intro c3
    first
    | exact dn c3
    | (
     have d3 := c3;try simp at d3
     skip
     )
   all_goals first | refine blk_ret ?_ | refine blk_exit ?_
   all_goals first
   | refine aft_ret ?_
   | (
    refine aft_normal ?_
    refine wa_ (wc_region (w_ (a_ (h:=wo_nil (e_ (h:=aft_normal (wc_ret (?_))))))))
    )
   )
  )
 all_goals (refine fin_ (hr:=(res_tmp rfl res_nil)) (h:=?_);(focus (clear hk;simp [ctsN,ctsF,prevAt] at * <;> grind)))
theorem e_eqIR (a b c d : Int) : oc.call 10 [.agg [.int .i64 a,.int .i64 b],.agg [.int .i64 c,.int .i64 d]] = some (.bool (decide (a = c ∧ b = d)),[]) := by
 refine fun_s rfl cd10 rfl rfl rfl (by simp;rfl) (by simp;rfl) ?_
 refine wa_ (wc_region (w_ (bx (h:=w_ (bx (h:=w_ (a_ (h:=wo_nil (e_ (h:=aft_normal (wa_ (wa_ (wc_region (w_ (f_ (h:=w_ (l_ (h:=w_ (f_ (h:=w_ (l_ (h:=w_ (bE (h:=wo_nil (e_ (h:=aft_normal (?_)))))))))))))))))))))))))))
 refine c_ (h1:=?_) (h2:=?_)
 rotate_right 1
 focus
  intro c1
  refine wc_skip (?_)
 rotate_right 1
 focus
  intro c1
  refine wa_ (wc_region (w_ (a_ (h:=wo_nil (e_ (h:=aft_normal (wc_ret (?_))))))))
 all_goals first
 | refine aft_ret ?_
 | (
  refine aft_normal ?_
  refine wa_ (wa_ (wc_region (w_ (f_ (h:=w_ (l_ (h:=w_ (f_ (h:=w_ (l_ (h:=w_ (bE (h:=wo_nil (e_ (h:=aft_normal (?_))))))))))))))))
  refine c_ (h1:=?_) (h2:=?_)
  rotate_right 1
  focus
   intro c2
   refine wc_skip (?_)
  rotate_right 1
  focus
   intro c2
   refine wa_ (wc_region (w_ (a_ (h:=wo_nil (e_ (h:=aft_normal (wc_ret (?_))))))))
  all_goals first
  | refine aft_ret ?_
  | (
   refine aft_normal ?_
   refine wa_ (wc_region (w_ (a_ (h:=wo_nil (e_ (h:=aft_normal (wc_ret (?_))))))))
   )
  )
 all_goals (refine fin_ (hr:=(res_tmp rfl res_nil)) (h:=?_);(focus (simp at * <;> grind)))
end Go.Proofs.YtadaeiahfidodaaGreat.Ev
namespace Go.Proofs.YtadaeiahfidodaaGreat.Ev
open Go
set_option maxRecDepth 100000
set_option linter.unusedSimpArgs false
set_option linter.unusedVariables false
set_option maxHeartbeats 2000000
def rowF (r : List Int) : Int := if 4 < r.length then 2 else if r.all (fun c => inI c (-1000000000) 1000000000) = true then 0 else 3
theorem l_rowI (r : List Int) (hr : r.length ≤ 4) : ∀ i : Nat,(i ≤ r.length) → ∀ s,normE 1 (some [8,9,10]) s = ⟨[(8,.lst false 0 (ints r)),(9,.int .i64 r.length),(10,.int .i64 i)],[],1⟩ →
 oc.loop 137 4 s = some (if (r.drop i).all (fun c => inI c (-1000000000) 1000000000) = true then (.exit 0,⟨[],[],1⟩) else (.ret,⟨[(2,.int .i64 3)],[],1⟩)) := by
 refine loop_ind (σ:=Nat) (fun i => r.length - i) _ (fun i => ⟨[(8,.lst false 0 (ints r)),(9,.int .i64 r.length),(10,.int .i64 i)],[],1⟩) _ ?_
 intro i hi ih s hs
 refine loop_s cd137 rfl rfl hs ?_
 refine wa_ (wc_region (w_ (b_ (h:=wo_nil (e_ (h:=aft_normal (wa_ (?_))))))))
 refine c_ (h1:=?_) (h2:=?_)
 rotate_right 1
 focus
  intro c1
  first
  | exact dn c1
  | (
   have d1 := c1;try simp at d1
   refine wc_exit (?_)
   )
 rotate_right 1
 focus
  intro c1
  first
  | exact dn c1
  | (
   have d1 := c1;try simp at d1
   have hw := wrap_succ (i:=i) (by omega);obtain ⟨x,hx,e1,g1⟩ := ints_cut (l:=r) (i:=i) (by omega)
   refine wc_skip (?_)
   )
 all_goals first
 | refine aft_exit ?_
 | (
  refine aft_normal ?_
  refine wa_ (wc_block (wa_ (wc_region (w_ (x_ (h:=w_ (l_ (h:=w_ (a_ (h:=wo_nil (e_ (h:=aft_normal (wa_ (wc_region (w_ (m_ (h:=w_ (ca (hc:=e_in _ _ _) (h:=w_ (u_ (h:=wo_nil (e_ (h:=aft_normal (?_))))))))))))))))))))))))
  refine c_ (h1:=?_) (h2:=?_)
  rotate_right 1
  focus
   intro c2
   first
   | exact dn c2
   | (
    have d2 := c2;try simp at d2
    refine wc_skip (?_)
    )
  rotate_right 1
  focus
   intro c2
   first
   | exact dn c2
   | (
    have d2 := c2;try simp at d2
    refine wa_ (wc_region (w_ (a_ (h:=wo_nil (e_ (h:=aft_normal (wc_ret (?_))))))))
    )
  all_goals first | refine blk_normal ?_ | refine blk_ret ?_
  all_goals first
  | refine aft_ret ?_
  | (
   refine aft_normal ?_
   refine wc_region (w_ (b_ (h:=w_ (m_ (h:=wo_nil (e_ (h:=?_)))))))
   )
  )
 all_goals first
 | (refine (ih (i + 1) (by omega) ?_ _ ?_).trans ?_;(focus (first | omega | (simp;done) | (simp;omega)));(focus (simp [normE,hw];done));(focus (rw [e1];simp [d2])))
 | (apply end_leaf (ex:=Ext.ret) 1 (some [2]);(focus (simp [normE];rfl));(focus (rw [e1];simp [d2])))
 | (apply end_leaf (ex:=(Ext.exit 0)) 1 (some [2]);(focus (simp [normE];rfl));(focus (rw [List.drop_eq_nil_of_le (by omega)];simp)))
theorem e_rowI (r : List Int) (h : r.length < 2000000) : oc.call 137 [.lst false 0 (ints r)] = some (.int .i64 (rowF r),[]) := by
 refine fun_s rfl cd137 rfl rfl rfl (by simp;rfl) (by simp;rfl) ?_
 refine wa_ (wc_region (w_ (a_ (h:=wo_nil (e_ (h:=aft_normal (wa_ (wa_ (wc_region (w_ (m_ (h:=w_ (le (h:=w_ (b_ (h:=wo_nil (e_ (h:=aft_normal (?_)))))))))))))))))))
 refine c_ (h1:=?_) (h2:=?_)
 rotate_right 1
 focus
  intro c1
  first
  | exact dn c1
  | (
   have d1 := c1;try simp at d1
   refine wc_skip (?_)
   )
 rotate_right 1
 focus
  intro c1
  first
  | exact dn c1
  | (
   have d1 := c1;try simp at d1
   refine wa_ (wc_region (w_ (a_ (h:=wo_nil (e_ (h:=aft_normal (wc_ret (?_))))))))
   )
 all_goals first
 | refine aft_ret ?_
 | (
  refine aft_normal ?_
  refine wa_ (wa_ (wc_region (w_ (m_ (h:=w_ (le (h:=w_ (m_ (h:=wo_nil (e_ (h:=aft_normal (wc_block (?_)))))))))))))
  refine wc_loopI (l_rowI r (by omega) 0 (by omega) _ (by simp [normE])) ?_ ?_
  rotate_right 1
  focus
   intro c2
   first
   | exact dn c2
   | (
    have d2 := c2;try simp at d2
    skip
    )
  rotate_right 1
  focus
   intro c2
   first
   | exact dn c2
   | (
    have d2 := c2;try simp at d2
    skip
    )
  all_goals first | refine blk_ret ?_ | refine blk_exit ?_
  all_goals first
  | refine aft_ret ?_
  | (
   refine aft_normal ?_
   refine wa_ (wc_region (w_ (a_ (h:=wo_nil (e_ (h:=aft_normal (wc_ret (?_))))))))
   )
  )
 all_goals (refine fin_ (hr:=(res_tmp rfl res_nil)) (h:=?_);(focus (simp [rowF];grind)))
theorem l_rowS (r : List Int) (hr : r.length ≤ 4) : ∀ i : Nat,(i ≤ r.length) → ∀ s,normE 1 (some [0,3]) s = ⟨[(0,.lst false 0 (ints r)),(3,.int .i64 i)],[],1⟩ →
 oc.loop 142 4 s = some (if (r.drop i).all (fun c => inI c (-1000000000) 1000000000) = true then (.exit 0,⟨[],[],1⟩) else (.ret,⟨[(2,.int .i64 3)],[],1⟩)) := by
 refine loop_ind (σ:=Nat) (fun i => r.length - i) _ (fun i => ⟨[(0,.lst false 0 (ints r)),(3,.int .i64 i)],[],1⟩) _ ?_
 intro i hi ih s hs
 refine loop_s cd142 rfl rfl hs ?_
 refine wa_ (wa_ (wc_region (w_ (m_ (h:=w_ (m_ (h:=w_ (le (h:=w_ (b_ (h:=wo_nil (e_ (h:=aft_normal (?_))))))))))))))
 refine c_ (h1:=?_) (h2:=?_)
 rotate_right 1
 focus
  intro c1
  first
  | exact dn c1
  | (
   have d1 := c1;try simp at d1
   refine wc_exit (?_)
   )
 rotate_right 1
 focus
  intro c1
  first
  | exact dn c1
  | (
   have d1 := c1;try simp at d1
   have hw := wrap_succ (i:=i) (by omega);obtain ⟨x,hx,e1,g1⟩ := ints_cut (l:=r) (i:=i) (by omega)
   refine wc_skip (?_)
   )
 all_goals first
 | refine aft_exit ?_
 | (
  refine aft_normal ?_
  refine wa_ (wc_block (wa_ (wc_region (w_ (m_ (h:=w_ (m_ (h:=w_ (x_ (h:=w_ (l_ (h:=w_ (ca (hc:=e_l1In _ _ _) (h:=w_ (u_ (h:=wo_nil (e_ (h:=aft_normal (?_)))))))))))))))))))
  refine c_ (h1:=?_) (h2:=?_)
  rotate_right 1
  focus
   intro c2
   first
   | exact dn c2
   | (
    have d2 := c2;try simp at d2
    refine wc_skip (?_)
    )
  rotate_right 1
  focus
   intro c2
   first
   | exact dn c2
   | (
    have d2 := c2;try simp at d2
    refine wa_ (wc_region (w_ (a_ (h:=wo_nil (e_ (h:=aft_normal (wc_ret (?_))))))))
    )
  all_goals first | refine blk_normal ?_ | refine blk_ret ?_
  all_goals first
  | refine aft_ret ?_
  | (
   refine aft_normal ?_
   refine wc_region (w_ (m_ (h:=w_ (b_ (h:=w_ (a_ (h:=wo_nil (e_ (h:=?_)))))))))
   )
  )
 all_goals first
 | (refine (ih (i + 1) (by omega) ?_ _ ?_).trans ?_;(focus (first | omega | (simp;done) | (simp;omega)));(focus (simp [normE,hw];done));(focus (rw [e1];simp [d2])))
 | (apply end_leaf (ex:=Ext.ret) 1 (some [2]);(focus (simp [normE];rfl));(focus (rw [e1];simp [d2])))
 | (apply end_leaf (ex:=(Ext.exit 0)) 1 (some [2]);(focus (simp [normE];rfl));(focus (rw [List.drop_eq_nil_of_le (by omega)];simp)))
theorem e_rowS (r : List Int) (h : r.length < 2000000) : oc.call 142 [.lst false 0 (ints r)] = some (.int .i64 (rowF r),[]) := by
 refine fun_s rfl cd142 rfl rfl rfl (by simp;rfl) (by simp;rfl) ?_
 refine wa_ (wc_region (w_ (a_ (h:=wo_nil (e_ (h:=aft_normal (wa_ (wa_ (wc_region (w_ (m_ (h:=w_ (le (h:=w_ (b_ (h:=wo_nil (e_ (h:=aft_normal (?_)))))))))))))))))))
 refine c_ (h1:=?_) (h2:=?_)
 rotate_right 1
 focus
  intro c1
  first
  | exact dn c1
  | (
   have d1 := c1;try simp at d1
   refine wc_skip (?_)
   )
 rotate_right 1
 focus
  intro c1
  first
  | exact dn c1
  | (
   have d1 := c1;try simp at d1
   refine wa_ (wc_region (w_ (a_ (h:=wo_nil (e_ (h:=aft_normal (wc_ret (?_))))))))
   )
 all_goals first
 | refine aft_ret ?_
 | (
  refine aft_normal ?_
  refine wa_ (wa_ (wc_region (w_ (a_ (h:=wo_nil (e_ (h:=aft_normal (wc_block (?_)))))))))
  refine wc_loopI (l_rowS r (by omega) 0 (by omega) _ (by simp [normE])) ?_ ?_
  rotate_right 1
  focus
   intro c2
   first
   | exact dn c2
   | (
    have d2 := c2;try simp at d2
    skip
    )
  rotate_right 1
  focus
   intro c2
   first
   | exact dn c2
   | (
    have d2 := c2;try simp at d2
    skip
    )
  all_goals first | refine blk_ret ?_ | refine blk_exit ?_
  all_goals first
  | refine aft_ret ?_
  | (
   refine aft_normal ?_
   refine wa_ (wc_region (w_ (a_ (h:=wo_nil (e_ (h:=aft_normal (wc_ret (?_))))))))
   )
  )
 all_goals (refine fin_ (hr:=(res_tmp rfl res_nil)) (h:=?_);(focus (simp [rowF];grind)))
def widN (pl : List Nd) : List Int := (lookN pl).1
theorem lookR_good {pl : List Nd} (hk : okN pl) (hp : pl.length < 2000000) : ∀ (r : List Nd) (ws : List Int),r = pl.drop ws.length → Good pl ws → (∀ k : Nat,k < ws.length → 1 ≤ at0 ws k ∧ at0 ws k ≤ 4) → (lookR pl r ws).2 = 0 → Good pl (lookR pl r ws).1 ∧ (lookR pl r ws).1.length = max pl.length ws.length ∧ ∀ k : Nat,k < (lookR pl r ws).1.length → 1 ≤ at0 (lookR pl r ws).1 k ∧ at0 (lookR pl r ws).1 k ≤ 4
  | [],ws,e,G,hb,_ => by
    have : pl.length ≤ ws.length := by
      have := congrArg List.length e;simp at this;omega
    unfold lookR
    exact ⟨G,by simp;omega,hb⟩
  | d :: r,ws,e,G,hb,h => by
    unfold lookR at h ⊢
    have hx : pl[ws.length]? = some d := by
      have := congrArg (fun l => l[0]?) e
      simpa using this.symm
    have hlt := (List.getElem?_eq_some_iff.mp hx).1
    have hr : r = pl.drop (ws.length + 1) := by
      have := congrArg List.tail e
      simpa [List.tail_drop] using this
    split at h
    · rename_i hs
      rw [if_pos hs]
      have hf := step_ok (by omega) hs
      have hw : 1 ≤ widthN d ws ∧ widthN d ws ≤ 4 := by
        obtain ⟨f1,f2⟩ := hf
        have ha : d.op ≠ 1 → 1 ≤ at0 ws d.a ∧ at0 ws d.a ≤ 4 := fun ho => by
          have := f1 ho
          have := hb d.a.toNat (by omega)
          rwa [Int.toNat_of_nonneg (by omega)] at this
        have hb2 : d.op = 4 ∨ d.op = 6 → 1 ≤ at0 ws d.b ∧ at0 ws d.b ≤ 4 := fun ho => by
          have := f2 ho
          have := hb d.b.toNat (by omega)
          rwa [Int.toNat_of_nonneg (by omega)] at this
        have h0 : faultN d ws = 0 := by
          unfold stepC at hs
          split at hs
          · cases hs
          · split at hs
            · cases hs
            · split at hs
              · cases hs
              · exact hs
        unfold faultN at h0
        unfold widthN
        by_cases o1 : d.op = 1
        · rw [if_pos o1] at h0 ⊢
          simp [inI] at h0;omega
        · rw [if_neg o1] at h0 ⊢
          have ha := ha o1
          by_cases o2 : d.op = 2
          · rw [if_neg (by omega),if_neg (by omega),if_neg (by simp [inI];omega)];exact ha
          · rw [if_neg o2] at h0
            by_cases o3 : d.op = 3
            · rw [if_pos o3] at h0 ⊢
              have : inI d.cells.length 1 4 = true := by
                cases hi : inI d.cells.length 1 4 with
                | true => rfl
                | false => rw [hi] at h0;simp at h0
              simp [inI] at this;omega
            · rw [if_neg o3] at h0 ⊢
              by_cases o4 : d.op = 4
              · rw [if_neg (by omega),if_neg (by simp [inI];omega)];exact ha
              · rw [if_neg o4] at h0
                by_cases o6 : d.op = 6
                · have hb2 := hb2 (.inr o6)
                  rw [if_pos o6] at h0 ⊢
                  have w1 : IntKind.i64.wrap (at0 ws d.a + at0 ws d.b) = at0 ws d.a + at0 ws d.b := wrap_id (by omega) (by omega)
                  have hi : inI d.col 1 (min (at0 ws d.a) (at0 ws d.b)) = true := by
                    cases hi : inI d.col 1 (min (at0 ws d.a) (at0 ws d.b)) with
                    | true => rfl
                    | false => rw [hi] at h0;simp at h0
                  rw [hi,if_pos rfl] at h0
                  have hle : ¬ 4 < widthN d ws := fun hc => by rw [if_pos hc] at h0;cases h0
                  unfold widthN at hle
                  rw [if_neg o1,if_neg o3,if_pos o6] at hle
                  simp only [inI,Bool.and_eq_true,decide_eq_true_eq] at hi
                  have w2 : IntKind.i64.wrap (at0 ws d.a + at0 ws d.b - d.col) = at0 ws d.a + at0 ws d.b - d.col := wrap_id (by omega) (by omega)
                  rw [w1,w2] at hle ⊢
                  omega
                · rw [if_neg o6] at h0 ⊢
                  by_cases o7 : d.op = 7
                  · rw [if_pos o7] at h0
                    have hi : inI d.col 0 (min (at0 ws d.a) 3) = true := by
                      cases hi : inI d.col 0 (min (at0 ws d.a) 3) with
                      | true => rfl
                      | false => rw [hi] at h0;simp at h0
                    simp only [inI,Bool.and_eq_true,decide_eq_true_eq] at hi
                    rw [if_pos (by simp [inI];omega),wrap_id (by omega) (by omega)];omega
                  · rw [if_neg o7] at h0
                    by_cases o8 : 8 ≤ d.op ∧ d.op ≤ 10
                    · rw [if_pos o8] at h0
                      have hi : inI d.col 0 (IntKind.i64.wrap (at0 ws d.a - 1)) = true := by
                        cases hi : inI d.col 0 (IntKind.i64.wrap (at0 ws d.a - 1)) with
                        | true => rfl
                        | false => rw [hi] at h0;simp at h0
                      rw [wrap_id (by omega) (by omega)] at hi
                      simp only [inI,Bool.and_eq_true,decide_eq_true_eq] at hi
                      rw [if_pos (by simp [inI];omega),wrap_id (by omega) (by omega)];omega
                    · rw [if_neg (by simp [inI];omega)];exact ha
      have key := lookR_good hk hp r (ws ++ [widthN d ws]) (by simpa using hr) (good_snoc hk (by omega) G hx hs) (by
        intro k hk2
        by_cases hc : k < ws.length
        · have := hb k hc
          simp only [at0,List.getD_eq_getElem?_getD,List.getElem?_append_left (show (k : Int).toNat < ws.length by omega)] at this ⊢
          exact this
        · have : k = ws.length := by simp at hk2;omega
          subst this
          simpa [at0,List.getD_eq_getElem?_getD] using hw) h
      refine ⟨key.1,?_,key.2.2⟩
      rw [key.2.1];simp;omega
    · exact absurd h ‹_›
theorem look_good {pl : List Nd} (hk : okN pl) (h : (lookN pl).2 = 0) : Good pl (widN pl) ∧ (widN pl).length = pl.length ∧ (∀ k : Nat,k < pl.length → 1 ≤ at0 (widN pl) k ∧ at0 (widN pl) k ≤ 4) ∧ 1 ≤ pl.length ∧ pl.length ≤ 8 := by
  unfold widN
  unfold lookN at h ⊢
  split at h
  · cases h
  · rename_i hl
    rw [if_neg hl]
    simp [inI] at hl
    split at h
    · rename_i h0
      rw [if_pos h0]
      have := lookR_good hk (by omega) pl [] rfl (good_nil pl) (fun k hk => by simp at hk) h0
      have hlen : (lookR pl pl []).1.length = pl.length := by rw [this.2.1];simp
      exact ⟨this.1,hlen,fun k hk2 => this.2.2 k (by omega),by omega,by omega⟩
    · exact absurd h ‹_›
theorem nd_at {pl : List Nd} {a : Int} (h0 : 0 ≤ a) (h1 : a < pl.length) : ∃ d,pl[a.toNat]? = some d ∧ (nds false 0 pl)[a.toNat]? = some (d.v false 0) := by
  have : a.toNat < pl.length := by omega
  exact ⟨pl[a.toNat],by simp [this],by simp [nds,this]⟩
def ndAt (pl : List Nd) (a : Int) : Nd := (pl[a.toNat]?).getD ⟨0,0,0,0,0,0,[]⟩
theorem ndAt_of {pl : List Nd} {a : Int} {d : Nd} (h : pl[a.toNat]? = some d) : ndAt pl a = d := by simp [ndAt,h]
def nodeC (pl : List Nd) (a : Int) : Int := if (lookN pl).2 = 0 then (if inI a 0 ((pl.length : Int) - 1) = true then 0 else 3) else (lookN pl).2
theorem nodeC_zero {pl : List Nd} {a : Int} (h : nodeC pl a = 0) : (lookN pl).2 = 0 ∧ 0 ≤ a ∧ a < pl.length := by
  unfold nodeC at h;split at h
  · split at h
    · rename_i h1 h2;simp [inI] at h2;exact ⟨h1,by omega,by omega⟩
    · cases h
  · exact absurd h ‹_›
theorem e_l3Asked (pl : List Nd) (a : Int) (hp : pl.length < 2000000) (hk : okN pl) : oc.call 102 [.lst false 0 (nds false 0 pl),.int .i64 a] = some (.int .i64 (nodeC pl a),[]) := by
 refine fun_s rfl cd102 rfl rfl rfl (by simp;rfl) (by simp;rfl) ?_
 have hw : IntKind.i64.wrap ((pl.length : Int) - 1) = pl.length - 1 := wrap_id (by omega) (by omega)
 refine wa_ (wc_region (w_ (a_ (h:=wo_nil (e_ (h:=aft_normal (wa_ (wa_ (wc_region (w_ (m_ (h:=w_ (ca (hc:=e_planS pl hp hk) (h:=w_ (a_ (h:=wo_nil (e_ (h:=aft_normal (wa_ (wc_region (w_ (m_ (h:=w_ (bE (h:=wo_nil (e_ (h:=aft_normal (?_))))))))))))))))))))))))))))
 refine c_ (h1:=?_) (h2:=?_)
 rotate_right 1
 focus
  intro c1
  first
  | exact dn c1
  | (
   have d1 := c1;try simp at d1
   refine wc_skip (?_)
   )
 rotate_right 1
 focus
  intro c1
  first
  | exact dn c1
  | (
   have d1 := c1;try simp at d1
   refine wa_ (wc_region (w_ (m_ (h:=w_ (a_ (h:=wo_nil (e_ (h:=aft_normal (wc_ret (?_))))))))))
   )
 all_goals first
 | refine aft_ret ?_
 | (
  refine aft_normal ?_
  refine wa_ (wa_ (wc_region (w_ (m_ (h:=w_ (m_ (h:=w_ (le (h:=w_ (b_ (h:=w_ (ca (hc:=e_l1In _ _ _) (h:=w_ (u_ (h:=wo_nil (e_ (h:=aft_normal (?_))))))))))))))))))
  refine c_ (h1:=?_) (h2:=?_)
  rotate_right 1
  focus
   intro c2
   first
   | exact dn c2
   | (
    have d2 := c2;try simp at d2
    refine wc_skip (?_)
    )
  rotate_right 1
  focus
   intro c2
   first
   | exact dn c2
   | (
    have d2 := c2;try simp at d2
    refine wa_ (wc_region (w_ (a_ (h:=wo_nil (e_ (h:=aft_normal (wc_ret (?_))))))))
    )
  all_goals first
  | refine aft_ret ?_
  | (
   refine aft_normal ?_
   refine wa_ (wc_region (w_ (a_ (h:=wo_nil (e_ (h:=aft_normal (wc_ret (?_))))))))
   )
  )
 all_goals (refine fin_ (hr:=(res_tmp rfl res_nil)) (h:=?_);(focus (clear hk;simp [nodeC,hw] at * <;> grind)))
theorem in_at {pl : List Nd} (hk : okN pl) (h : (lookN pl).2 = 0) {a : Int} {d : Nd} (h0 : 0 ≤ a) (hd : pl[a.toNat]? = some d) : (1 ≤ d.op ∧ d.op ≤ 12) ∧ (d.op ≠ 1 → 0 ≤ d.a ∧ d.a < a) ∧ (d.op = 4 ∨ d.op = 6 → 0 ≤ d.b ∧ d.b < a) := by
  have hw := look_wf h a.toNat d hd
  have : ∀ (r : List Nd) (ws : List Int),r = pl.drop ws.length → (lookR pl r ws).2 = 0 → ∀ (n : Nat) d,ws.length ≤ n → pl[n]? = some d → 1 ≤ d.op ∧ d.op ≤ 12 := by
    intro r
    induction r with
    | nil =>
      intro ws e _ n d hn hd
      have : pl.length ≤ ws.length := by have := congrArg List.length e;simp at this;omega
      have := (List.getElem?_eq_some_iff.mp hd).1
      omega
    | cons x r ih =>
      intro ws e h n d hn hd
      unfold lookR at h
      have hx : pl[ws.length]? = some x := by
        have := congrArg (fun l => l[0]?) e
        simpa using this.symm
      have hr : r = pl.drop (ws.length + 1) := by
        have := congrArg List.tail e
        simpa [List.tail_drop] using this
      split at h
      · rename_i hs
        by_cases hc : n = ws.length
        · subst hc
          rw [hx] at hd
          cases hd
          unfold stepC at hs
          split at hs
          · cases hs
          · rename_i h1
            simp [inI] at h1;omega
        · exact ih (ws ++ [widthN x ws]) (by simpa using hr) h n d (by simp;omega) hd
      · exact absurd h ‹_›
  have h2 : (lookR pl pl []).2 = 0 := by
    unfold lookN at h
    split at h
    · cases h
    · split at h
      · exact ‹_›
      · exact absurd h ‹_›
  have h3 := this pl [] rfl h2 a.toNat d (by simp) hd
  obtain ⟨f1,f2⟩ := hw
  exact ⟨h3,fun ho => by have := f1 ho;omega,fun ho => by have := f2 ho;omega⟩
end Go.Proofs.YtadaeiahfidodaaGreat.Ev
namespace Go.Proofs.YtadaeiahfidodaaGreat.Ev
open Go
set_option maxRecDepth 100000
set_option linter.unusedSimpArgs false
set_option linter.unusedVariables false
set_option maxHeartbeats 2000000
def staysN (d : Nd) : Bool := decide (1 ≤ d.op ∧ d.op ≤ 5)
theorem e_linI (a : Int) : oc.call 136 [.int .i64 a] = some (.bool (inI a 1 5 || decide (a = 12)),[]) := by
 refine fun_s rfl cd136 rfl rfl rfl (by simp;rfl) (by simp;rfl) ?_
 refine wa_ (wc_region (w_ (a_ (h:=wo_nil (e_ (h:=aft_normal (wa_ (wa_ (wc_region (w_ (m_ (h:=wo_nil (e_ (h:=aft_normal (wc_block (wa_ (wa_ (wc_region (w_ (bE (h:=w_ (a_ (h:=wo_nil (e_ (h:=aft_normal (?_))))))))))))))))))))))))))
 refine c_ (h1:=?_) (h2:=?_)
 rotate_right 1
 focus
  intro c1
  first
  | exact dn c1
  | (
   have d1 := c1;try simp at d1
   refine wa_ (wc_region (w_ (bE (h:=w_ (a_ (h:=wo_nil (e_ (h:=aft_normal (?_)))))))))
   refine c_ (h1:=?_) (h2:=?_)
   rotate_right 1
   focus
    intro c2
    first
    | exact dn c2
    | (
     have d2 := c2;try simp at d2
     refine wa_ (wc_region (w_ (bE (h:=w_ (a_ (h:=wo_nil (e_ (h:=aft_normal (?_)))))))))
     refine c_ (h1:=?_) (h2:=?_)
     rotate_right 1
     focus
      intro c3
      first
      | exact dn c3
      | (
       have d3 := c3;try simp at d3
       refine wa_ (wc_region (w_ (bE (h:=w_ (a_ (h:=wo_nil (e_ (h:=aft_normal (?_)))))))))
       refine c_ (h1:=?_) (h2:=?_)
       rotate_right 1
       focus
        intro c4
        first
        | exact dn c4
        | (
         have d4 := c4;try simp at d4
         refine wa_ (wc_region (w_ (bE (h:=w_ (a_ (h:=wo_nil (e_ (h:=aft_normal (?_)))))))))
         refine c_ (h1:=?_) (h2:=?_)
         rotate_right 1
         focus
          intro c5
          first
          | exact dn c5
          | (
           have d5 := c5;try simp at d5
           refine wc_region (w_ (bE (h:=w_ (a_ (h:=wo_nil (e_ (h:=?_)))))))
           )
         rotate_right 1
         focus
          intro c5
          first
          | exact dn c5
          | (
           have d5 := c5;try simp at d5
           refine wc_skip (?_)
           )
         )
       rotate_right 1
       focus
        intro c4
        first
        | exact dn c4
        | (
         have d4 := c4;try simp at d4
         refine wc_skip (?_)
         )
       )
     rotate_right 1
     focus
      intro c3
      first
      | exact dn c3
      | (
       have d3 := c3;try simp at d3
       refine wc_skip (?_)
       )
     )
   rotate_right 1
   focus
    intro c2
    first
    | exact dn c2
    | (
     have d2 := c2;try simp at d2
     refine wc_skip (?_)
     )
   )
 rotate_right 1
 focus
  intro c1
  first
  | exact dn c1
  | (
   have d1 := c1;try simp at d1
   refine wc_skip (?_)
   )
 all_goals first
 | (
  refine aft_normal ?_
  refine c_ (h1:=?_) (h2:=?_)
  rotate_right 1
  focus
   intro c6
   first
   | exact dn c6
   | (
    have d6 := c6;try simp at d6
    refine wc_skip (?_)
    )
  rotate_right 1
  focus
   intro c6
   first
   | exact dn c6
   | (
    have d6 := c6;try simp at d6
    refine wa_ (wc_region (w_ (a_ (h:=wo_nil (e_ (h:=aft_normal (wc_ret (?_))))))))
    )
  )
 all_goals first | refine blk_normal ?_ | refine blk_ret ?_
 all_goals first
 | refine aft_ret ?_
 | (
  refine aft_normal ?_
  refine wa_ (wc_region (w_ (a_ (h:=wo_nil (e_ (h:=aft_normal (wc_ret (?_))))))))
  )
 all_goals (refine fin_ (hr:=(res_tmp rfl res_nil)) (h:=?_);(focus (simp [inI];omega)))
theorem e_linS (a : Int) : oc.call 128 [.int .i64 a] = some (.bool (inI a 1 5 || decide (a = 12)),[]) := by
 refine fun_s rfl cd128 rfl rfl rfl (by simp;rfl) (by simp;rfl) ?_
 refine wa_ (wc_region (w_ (a_ (h:=wo_nil (e_ (h:=aft_normal (wa_ (wc_region (w_ (m_ (h:=w_ (ca (hc:=e_l1In _ _ _) (h:=w_ (m_ (h:=?_)))))))))))))))
 refine gw_ (h1:=?_) (h2:=?_)
 rotate_right 1
 focus
  intro c1
  refine go_ (h:=go_ (h:=?_))
 rotate_right 1
 focus
  intro c1
  refine g_ (h:=w_ (m_ (h:=g_ (h:=w_ (bE (h:=?_))))))
 all_goals
  refine w_ (pk (h:=w_ (a_ (h:=wo_nil (e_ (h:=?_))))))
 all_goals first
 | (
  refine aft_normal ?_
  refine wc_ret (?_)
  )
 all_goals (refine fin_ (hr:=(res_tmp rfl res_nil)) (h:=?_);(focus (simp [inI] at * <;> grind)))
theorem e_staysI (d : Nd) : oc.call 117 [d.v false 0] = some (.bool (staysN d),[]) := by
 refine fun_s rfl cd117 rfl rfl rfl (by simp;rfl) (by simp;rfl) ?_
 refine wa_ (wc_region (w_ (bx (h:=w_ (a_ (h:=wo_nil (e_ (h:=aft_normal (wa_ (wc_region (w_ (f_ (h:=w_ (l_ (h:=w_ (ca (hc:=e_linI _) (h:=w_ (m_ (h:=?_)))))))))))))))))))
 refine gw_ (h1:=?_) (h2:=?_)
 rotate_right 1
 focus
  intro c1
  refine go_ (h:=go_ (h:=go_ (h:=?_)))
 rotate_right 1
 focus
  intro c1
  refine g_ (h:=w_ (f_ (h:=g_ (h:=w_ (l_ (h:=g_ (h:=w_ (bE (h:=?_)))))))))
 all_goals
  refine w_ (pk (h:=w_ (a_ (h:=wo_nil (e_ (h:=?_))))))
 all_goals first
 | (
  refine aft_normal ?_
  refine wc_ret (?_)
  )
 all_goals (refine fin_ (hr:=(res_tmp rfl res_nil)) (h:=?_);(focus (simp [staysN,inI] at * <;> grind)))
def cmpL : List Int → List Int → Int
  | [],[] => 0
  | [],_ :: _ => -1
  | _ :: _,[] => 1
  | a :: r,b :: s => if a < b then -1 else if b < a then 1 else cmpL r s
theorem cmpL_anti : ∀ (a b : List Int),cmpL a b = -cmpL b a
  | [],[] => rfl
  | [],_ :: _ => rfl
  | _ :: _,[] => rfl
  | a :: r,b :: s => by
    simp only [cmpL]
    rw [cmpL_anti r s]
    split <;> split <;> first | omega | rfl
theorem e_nanI (a : Int) : oc.call 148 [.int .i64 a] = some (.bool false,[]) := by
 refine fun_s rfl cd148 rfl rfl rfl (by simp;rfl) (by simp;rfl) ?_
 refine wa_ (wc_region (w_ (a_ (h:=wo_nil (e_ (h:=aft_normal (wa_ (wc_region (w_ (m_ (h:=w_ (m_ (h:=w_ (bE (h:=w_ (a_ (h:=wo_nil (e_ (h:=aft_normal (wc_ret (?_)))))))))))))))))))))
 all_goals (refine fin_ (hr:=(res_tmp rfl res_nil)) (h:=?_);(focus (first | (simp_all;done) | (simp_all <;> omega) | (simp_all <;> split <;> simp_all <;> omega))))
theorem e_cmpi (a b : Int) : oc.call 146 [.int .i64 a,.int .i64 b] = some (.int .i64 (cmpI a b),[]) := by
 refine fun_s rfl cd146 rfl rfl rfl (by simp;rfl) (by simp;rfl) ?_
 refine wa_ (wc_region (w_ (a_ (h:=wo_nil (e_ (h:=aft_normal (wa_ (wc_region (w_ (m_ (h:=w_ (ca (hc:=e_nanI _) (h:=w_ (a_ (h:=wo_nil (e_ (h:=aft_normal (wa_ (wc_region (w_ (m_ (h:=w_ (ca (hc:=e_nanI _) (h:=w_ (a_ (h:=wo_nil (e_ (h:=aft_normal (wa_ (wa_ (wc_region (w_ (m_ (h:=wo_nil (e_ (h:=aft_normal (?_)))))))))))))))))))))))))))))))))))))
 refine c_ (h1:=?_) (h2:=?_)
 rotate_right 1
 focus
  intro c1
  first
  | exact dn c1
  | (
   have d1 := c1;try simp at d1
   refine wc_skip (?_)
   )
 rotate_right 1
 focus
  intro c1
  first
  | exact dn c1
  | (
   have d1 := c1;try simp at d1
   refine wa_ (wa_ (wc_region (w_ (m_ (h:=wo_nil (e_ (h:=aft_normal (?_))))))))
   refine c_ (h1:=?_) (h2:=?_)
   rotate_right 1
   focus
    intro c2
    first
    | exact dn c2
    | (
     have d2 := c2;try simp at d2
     refine wc_skip (?_)
     )
   rotate_right 1
   focus
    intro c2
    first
    | exact dn c2
    | (
     have d2 := c2;try simp at d2
     refine wa_ (wc_region (w_ (a_ (h:=wo_nil (e_ (h:=aft_normal (wc_ret (?_))))))))
     )
   all_goals first
   | refine aft_ret ?_
   | (
    refine aft_normal ?_
    refine wa_ (wc_region (w_ (a_ (h:=wo_nil (e_ (h:=aft_normal (wc_ret (?_))))))))
    )
   )
 all_goals first
 | refine aft_ret ?_
 | (
  refine aft_normal ?_
  refine wa_ (wa_ (wc_region (w_ (m_ (h:=wo_nil (e_ (h:=aft_normal (?_))))))))
  refine c_ (h1:=?_) (h2:=?_)
  rotate_right 1
  focus
   intro c3
   first
   | exact dn c3
   | (
    have d3 := c3;try simp at d3
    refine wc_skip (?_)
    )
  rotate_right 1
  focus
   intro c3
   first
   | exact dn c3
   | (
    have d3 := c3;try simp at d3
    refine wa_ (wc_region (w_ (a_ (h:=wo_nil (e_ (h:=aft_normal (wc_ret (?_))))))))
    )
  all_goals first
  | refine aft_ret ?_
  | (
   refine aft_normal ?_
   refine wa_ (wa_ (wc_region (w_ (m_ (h:=w_ (m_ (h:=w_ (b_ (h:=wo_nil (e_ (h:=aft_normal (?_))))))))))))
   refine c_ (h1:=?_) (h2:=?_)
   rotate_right 1
   focus
    intro c4
    first
    | exact dn c4
    | (
     have d4 := c4;try simp at d4
     refine wc_skip (?_)
     )
   rotate_right 1
   focus
    intro c4
    first
    | exact dn c4
    | (
     have d4 := c4;try simp at d4
     refine wa_ (wc_region (w_ (a_ (h:=wo_nil (e_ (h:=aft_normal (wc_ret (?_))))))))
     )
   all_goals first
   | refine aft_ret ?_
   | (
    refine aft_normal ?_
    refine wa_ (wa_ (wc_region (w_ (m_ (h:=w_ (m_ (h:=w_ (b_ (h:=wo_nil (e_ (h:=aft_normal (?_))))))))))))
    refine c_ (h1:=?_) (h2:=?_)
    rotate_right 1
    focus
     intro c5
     first
     | exact dn c5
     | (
      have d5 := c5;try simp at d5
      refine wc_skip (?_)
      )
    rotate_right 1
    focus
     intro c5
     first
     | exact dn c5
     | (
      have d5 := c5;try simp at d5
      refine wa_ (wc_region (w_ (a_ (h:=wo_nil (e_ (h:=aft_normal (wc_ret (?_))))))))
      )
    all_goals first
    | refine aft_ret ?_
    | (
     refine aft_normal ?_
     refine wa_ (wc_region (w_ (a_ (h:=wo_nil (e_ (h:=aft_normal (wc_ret (?_))))))))
     )
    )
   )
  )
 all_goals (refine fin_ (hr:=(res_tmp rfl res_nil)) (h:=?_);(focus (simp [cmpI];grind)))
theorem cmpL_pre : ∀ {a b : List Int},a.take (min a.length b.length) = b.take (min a.length b.length) → cmpL a b = cmpI a.length b.length
  | [],[],_ => rfl
  | [],y :: s,_ => by simp [cmpL,cmpI] <;> omega
  | x :: r,[],_ => by simp [cmpL,cmpI] <;> omega
  | x :: r,y :: s,h => by
    have hm : min (x :: r).length (y :: s).length = min r.length s.length + 1 := by simp only [List.length_cons];omega
    rw [hm,List.take_succ_cons,List.take_succ_cons,List.cons.injEq] at h
    have := cmpL_pre h.2
    simp only [cmpL,h.1,Int.lt_irrefl,if_false,this,cmpI,List.length_cons]
    split <;> split <;> first | omega | (split <;> omega) | rfl
theorem cut2 {a b : List Int} {i : Nat} (h : i < min a.length b.length) : ∃ x y,a.drop i = x :: a.drop (i + 1) ∧ b.drop i = y :: b.drop (i + 1) ∧ (a.take (min a.length b.length)).drop i = x :: (a.take (min a.length b.length)).drop (i + 1) ∧ (b.take (min a.length b.length)).drop i = y :: (b.take (min a.length b.length)).drop (i + 1) ∧
    (ints a)[(i : Int).toNat]? = some (.int .i64 x) ∧ (ints b)[(i : Int).toNat]? = some (.int .i64 y) := by
  have h1 : i < a.length := by omega
  have h2 : i < b.length := by omega
  refine ⟨a[i],b[i],List.drop_eq_getElem_cons h1,List.drop_eq_getElem_cons h2,?_,?_,ints_at h1,ints_at h2⟩
  · rw [List.drop_eq_getElem_cons (by simp;omega)];simp
  · rw [List.drop_eq_getElem_cons (by simp;omega)];simp
theorem l_cmpI (a b : List Int) (ha : a.length < 2000000) (hb : b.length < 2000000) : ∀ i : Nat,(i ≤ min a.length b.length) → ∀ s,normE 2 (some [0,1,11,12]) s = ⟨[(0,.lst false 0 (ints a)),(1,.lst false 0 (ints b)),(11,.int .i64 (if (b.length : Int) < a.length then b.length else a.length)),(12,.int .i64 i)],[],2⟩ →
 oc.loop 138 2 s = some (if (a.take (min a.length b.length)).drop i = (b.take (min a.length b.length)).drop i then (.exit 0,⟨[(0,.lst false 0 (ints a)),(1,.lst false 0 (ints b))],[],2⟩) else (.ret,⟨[(0,.lst false 0 (ints a)),(1,.lst false 0 (ints b)),(4,.int .i64 (cmpL (a.drop i) (b.drop i)))],[],2⟩)) := by
 refine loop_ind (σ:=Nat) (fun i => min a.length b.length - i) _ (fun i => ⟨[(0,.lst false 0 (ints a)),(1,.lst false 0 (ints b)),(11,.int .i64 (if (b.length : Int) < a.length then b.length else a.length)),(12,.int .i64 i)],[],2⟩) _ ?_
 intro i hi ih s hs
 refine loop_s cd138 rfl rfl hs ?_
 have hmin : (if (b.length : Int) < a.length then (b.length : Int) else a.length) = (min a.length b.length : Nat) := by split <;> omega
 refine wa_ (wc_region (w_ (b_ (h:=wo_nil (e_ (h:=aft_normal (wa_ (?_))))))))
 refine c_ (h1:=?_) (h2:=?_)
 rotate_right 1
 focus
  intro c1
  first
  | exact dn c1
  | (
   have d1 := c1;try simp at d1
   have c9 := c1;rw [hmin] at c9;simp at c9;have hi2 : i = min a.length b.length := (by omega)
   refine wc_exit (?_)
   )
 rotate_right 1
 focus
  intro c1
  first
  | exact dn c1
  | (
   have d1 := c1;try simp at d1
   have c9 := c1;rw [hmin] at c9;simp at c9;have hw := wrap_succ (i:=i) (by omega);obtain ⟨x,y,e1,e2,e3,e4,g1,g2⟩ := cut2 (a:=a) (b:=b) (i:=i) (by omega)
   refine wc_skip (?_)
   )
 all_goals first
 | refine aft_exit ?_
 | (
  refine aft_normal ?_
  refine wa_ (wc_block (wa_ (wc_region (w_ (m_ (h:=w_ (a_ (h:=wo_nil (e_ (h:=aft_normal (wa_ (wc_draw (y_ (m_ (h:=ax_ (h:=y_ (m_ (h:=ax_ (h:=y_ (x_ (h:=ax_ (h:=y_ (l_ (h:=ax_ (h:=y_ (m_ (h:=ax_ (h:=y_ (m_ (h:=ax_ (h:=y_ (x_ (h:=ax_ (h:=y_ (l_ (h:=ax_ (h:=y_ (ca (hc:=e_cmp _ _) (h:=ax_ (h:=y_ (a_ (h:=ax_ (h:=wo_nil (ed (h:=aft_normal (wa_ (wc_region (w_ (m_ (h:=w_ (bE (h:=wo_nil (e_ (h:=aft_normal (?_)))))))))))))))))))))))))))))))))))))))))))))))))))))))
  refine c_ (h1:=?_) (h2:=?_)
  rotate_right 1
  focus
   intro c2
   first
   | exact dn c2
   | (
    have d2 := c2;try simp at d2
    refine wc_skip (?_)
    )
  rotate_right 1
  focus
   intro c2
   first
   | exact dn c2
   | (
    have d2 := c2;try simp at d2
    refine wa_ (wc_region (w_ (m_ (h:=w_ (a_ (h:=wo_nil (e_ (h:=aft_normal (wc_ret (?_))))))))))
    )
  all_goals first | refine blk_normal ?_ | refine blk_ret ?_
  all_goals first
  | refine aft_ret ?_
  | (
   refine aft_normal ?_
   refine wc_region (w_ (b_ (h:=w_ (m_ (h:=wo_nil (e_ (h:=?_)))))))
   )
  )
 all_goals first
 | (refine (ih (i + 1) (by omega) ?_ _ ?_).trans ?_;(focus (first | omega | (simp;done) | (simp;omega)));(focus (simp [normE,hw];done));(focus (simp only [cmpI] at d2;have hxy : x = y := (by grind);rw [e1,e2,e3,e4];simp [hxy,cmpL])))
 | (apply end_leaf (ex:=Ext.ret) 2 (some [0,1,4]);(focus (simp [normE];rfl));(focus (rw [e1,e2,e3,e4];simp only [cmpI] at d2;have hxy : x ≠ y := (by grind);simp only [List.cons.injEq,hxy,false_and,if_false,cmpL,cmpI];grind)))
 | (apply end_leaf (ex:=(Ext.exit 0)) 2 (some [0,1,4]);(focus (simp [normE];rfl));(focus (rw [if_pos (by rw [List.drop_eq_nil_of_le (by simp;omega),List.drop_eq_nil_of_le (by simp;omega)])])))
theorem e_cmpRI (a b : List Int) (ha : a.length < 2000000) (hb : b.length < 2000000) : oc.call 138 [.lst false 0 (ints a),.lst false 0 (ints b)] = some (.int .i64 (cmpL a b),[]) := by
 refine fun_s rfl cd138 rfl rfl rfl (by simp;rfl) (by simp;rfl) ?_
 refine wa_ (wc_region (w_ (a_ (h:=wo_nil (e_ (h:=aft_normal (wa_ (wa_ (wc_region (w_ (m_ (h:=w_ (le (h:=w_ (m_ (h:=w_ (le (h:=w_ (mi (h:=w_ (m_ (h:=wo_nil (e_ (h:=aft_normal (wc_block (?_))))))))))))))))))))))))))
 refine wc_loopI (l_cmpI a b ha hb 0 (by omega) _ (by simp [normE])) ?_ ?_
 rotate_right 1
 focus
  intro c1
  skip
 rotate_right 1
 focus
  intro c1
  skip
 all_goals first | refine blk_ret ?_ | refine blk_exit ?_
 all_goals first
 | refine aft_ret ?_
 | (
  refine aft_normal ?_
  refine wa_ (wc_region (w_ (m_ (h:=w_ (le (h:=w_ (m_ (h:=w_ (le (h:=w_ (ca (hc:=e_cmpi _ _) (h:=w_ (a_ (h:=wo_nil (e_ (h:=aft_normal (wc_ret (?_))))))))))))))))))
  )
 all_goals (refine fin_ (hr:=(res_tmp rfl res_nil)) (h:=?_);(focus (first | (have h3 := cmpL_pre (a:=a) (b:=b) (by simpa using c1);simp [h3];done) | simp)))
theorem l_cmpS (a b : List Int) (ha : a.length < 2000000) (hb : b.length < 2000000) : ∀ i : Nat,(i ≤ min a.length b.length) → ∀ s,normE 2 (some [0,1,5]) s = ⟨[(0,.lst false 0 (ints a)),(1,.lst false 0 (ints b)),(5,.int .i64 i)],[],2⟩ →
 oc.loop 143 2 s = some (if (a.take (min a.length b.length)).drop i = (b.take (min a.length b.length)).drop i then (.exit 0,⟨[(0,.lst false 0 (ints a)),(1,.lst false 0 (ints b))],[],2⟩) else (.ret,⟨[(0,.lst false 0 (ints a)),(1,.lst false 0 (ints b)),(4,.int .i64 (cmpL (a.drop i) (b.drop i)))],[],2⟩)) := by
 refine loop_ind (σ:=Nat) (fun i => min a.length b.length - i) _ (fun i => ⟨[(0,.lst false 0 (ints a)),(1,.lst false 0 (ints b)),(5,.int .i64 i)],[],2⟩) _ ?_
 intro i hi ih s hs
 refine loop_s cd143 rfl rfl hs ?_
 refine wa_ (wa_ (wc_region (w_ (m_ (h:=w_ (m_ (h:=w_ (le (h:=w_ (b_ (h:=w_ (m_ (h:=?_)))))))))))))
 refine gw_ (h1:=?_) (h2:=?_)
 rotate_right 1
 focus
  intro c1
  first
  | exact dn c1
  | (
   have d1 := c1;try simp at d1
   refine go_ (h:=go_ (h:=go_ (h:=go_ (h:=?_))))
   )
 rotate_right 1
 focus
  intro c1
  first
  | exact dn c1
  | (
   have d1 := c1;try simp at d1
   refine g_ (h:=w_ (m_ (h:=g_ (h:=w_ (m_ (h:=g_ (h:=w_ (le (h:=g_ (h:=w_ (b_ (h:=?_))))))))))))
   )
 all_goals
  refine w_ (pk (h:=wo_nil (e_ (h:=?_))))
 all_goals first
 | (
  refine aft_normal ?_
  refine c_ (h1:=?_) (h2:=?_)
  rotate_right 1
  focus
   intro c2
   first
   | exact dn c2
   | (
    have d2 := c2;try simp at d2
    have hi2 : i = min a.length b.length := (by omega)
    refine wc_exit (?_)
    )
  rotate_right 1
  focus
   intro c2
   first
   | exact dn c2
   | (
    have d2 := c2;try simp at d2
    have hw := wrap_succ (i:=i) (by omega);obtain ⟨x,y,e1,e2,e3,e4,g1,g2⟩ := cut2 (a:=a) (b:=b) (i:=i) (by omega)
    refine wc_skip (?_)
    )
  )
 all_goals first
 | refine aft_exit ?_
 | (
  refine aft_normal ?_
  refine wa_ (wc_block (wa_ (wa_ (wc_draw (y_ (m_ (h:=ax_ (h:=y_ (m_ (h:=ax_ (h:=y_ (x_ (h:=ax_ (h:=y_ (l_ (h:=ax_ (h:=y_ (m_ (h:=ax_ (h:=y_ (m_ (h:=ax_ (h:=y_ (x_ (h:=ax_ (h:=y_ (l_ (h:=ax_ (h:=y_ (b_ (h:=ax_ (h:=wo_nil (ed (h:=aft_normal (?_)))))))))))))))))))))))))))))))))))
  refine c_ (h1:=?_) (h2:=?_)
  rotate_right 1
  focus
   intro c3
   first
   | exact dn c3
   | (
    have d3 := c3;try simp at d3
    refine wc_skip (?_)
    )
  rotate_right 1
  focus
   intro c3
   first
   | exact dn c3
   | (
    have d3 := c3;try simp at d3
    refine wa_ (wc_region (w_ (a_ (h:=wo_nil (e_ (h:=aft_normal (wc_ret (?_))))))))
    )
  all_goals first
  | refine aft_ret ?_
  | (
   refine aft_normal ?_
   refine wa_ (wc_draw (y_ (m_ (h:=ax_ (h:=y_ (m_ (h:=ax_ (h:=y_ (x_ (h:=ax_ (h:=y_ (l_ (h:=ax_ (h:=y_ (m_ (h:=ax_ (h:=y_ (m_ (h:=ax_ (h:=y_ (x_ (h:=ax_ (h:=y_ (l_ (h:=ax_ (h:=y_ (b_ (h:=ax_ (h:=wo_nil (ed (h:=aft_normal (?_))))))))))))))))))))))))))))))))
   refine c_ (h1:=?_) (h2:=?_)
   rotate_right 1
   focus
    intro c4
    first
    | exact dn c4
    | (
     have d4 := c4;try simp at d4
     refine wc_skip (?_)
     )
   rotate_right 1
   focus
    intro c4
    first
    | exact dn c4
    | (
     have d4 := c4;try simp at d4
     refine wa_ (wc_region (w_ (a_ (h:=wo_nil (e_ (h:=aft_normal (wc_ret (?_))))))))
     )
   )
  all_goals first | refine blk_normal ?_ | refine blk_ret ?_
  all_goals first
  | refine aft_ret ?_
  | (
   refine aft_normal ?_
   refine wc_region (w_ (m_ (h:=w_ (b_ (h:=w_ (a_ (h:=wo_nil (e_ (h:=?_)))))))))
   )
  )
 all_goals first
 | (refine (ih (i + 1) (by omega) ?_ _ ?_).trans ?_;(focus (first | omega | (simp;done) | (simp;omega)));(focus (simp [normE,hw];done));(focus (have hxy : x = y := (by omega);rw [e1,e2,e3,e4];simp [hxy,cmpL])))
 | (apply end_leaf (ex:=Ext.ret) 2 (some [0,1,4]);(focus (simp [normE];rfl));(focus (have hxy : x ≠ y := (by omega);rw [e1,e2,e3,e4];simp only [List.cons.injEq,hxy,false_and,if_false,cmpL];rw [if_pos (by omega)])))
 | (apply end_leaf (ex:=Ext.ret) 2 (some [0,1,4]);(focus (simp [normE];rfl));(focus (have hxy : x ≠ y := (by omega);rw [e1,e2,e3,e4];simp only [List.cons.injEq,hxy,false_and,if_false,cmpL];rw [if_neg (by omega),if_pos (by omega)])))
 | (apply end_leaf (ex:=(Ext.exit 0)) 2 (some [0,1,4]);(focus (simp [normE];rfl));(focus (rw [if_pos (by rw [List.drop_eq_nil_of_le (by simp;omega),List.drop_eq_nil_of_le (by simp;omega)])])))
theorem e_cmpRS (a b : List Int) (ha : a.length < 2000000) (hb : b.length < 2000000) : oc.call 143 [.lst false 0 (ints a),.lst false 0 (ints b)] = some (.int .i64 (cmpL a b),[]) := by
 refine fun_s rfl cd143 rfl rfl rfl (by simp;rfl) (by simp;rfl) ?_
 refine wa_ (wc_region (w_ (a_ (h:=wo_nil (e_ (h:=aft_normal (wa_ (wa_ (wc_region (w_ (a_ (h:=wo_nil (e_ (h:=aft_normal (wc_block (?_))))))))))))))))
 refine wc_loopI (l_cmpS a b ha hb 0 (by omega) _ (by simp [normE])) ?_ ?_
 rotate_right 1
 focus
  intro c1
  first
  | exact dn c1
  | (
   have d1 := c1;try simp at d1
   skip
   )
 rotate_right 1
 focus
  intro c1
  first
  | exact dn c1
  | (
   have d1 := c1;try simp at d1
   skip
   )
 all_goals first | refine blk_ret ?_ | refine blk_exit ?_
 all_goals first
 | refine aft_ret ?_
 | (
  refine aft_normal ?_
  refine wa_ (wa_ (wc_region (w_ (m_ (h:=w_ (le (h:=w_ (m_ (h:=w_ (le (h:=w_ (b_ (h:=wo_nil (e_ (h:=aft_normal (?_))))))))))))))))
  refine c_ (h1:=?_) (h2:=?_)
  rotate_right 1
  focus
   intro c2
   first
   | exact dn c2
   | (
    have d2 := c2;try simp at d2
    refine wc_skip (?_)
    )
  rotate_right 1
  focus
   intro c2
   first
   | exact dn c2
   | (
    have d2 := c2;try simp at d2
    refine wa_ (wc_region (w_ (a_ (h:=wo_nil (e_ (h:=aft_normal (wc_ret (?_))))))))
    )
  all_goals first
  | refine aft_ret ?_
  | (
   refine aft_normal ?_
   refine wa_ (wa_ (wc_region (w_ (m_ (h:=w_ (le (h:=w_ (m_ (h:=w_ (le (h:=w_ (b_ (h:=wo_nil (e_ (h:=aft_normal (?_))))))))))))))))
   refine c_ (h1:=?_) (h2:=?_)
   rotate_right 1
   focus
    intro c3
    first
    | exact dn c3
    | (
     have d3 := c3;try simp at d3
     refine wc_skip (?_)
     )
   rotate_right 1
   focus
    intro c3
    first
    | exact dn c3
    | (
     have d3 := c3;try simp at d3
     refine wa_ (wc_region (w_ (a_ (h:=wo_nil (e_ (h:=aft_normal (wc_ret (?_))))))))
     )
   all_goals first
   | refine aft_ret ?_
   | (
    refine aft_normal ?_
    refine wa_ (wc_region (w_ (a_ (h:=wo_nil (e_ (h:=aft_normal (wc_ret (?_))))))))
    )
   )
  )
 all_goals (refine fin_ (hr:=(res_tmp rfl res_nil)) (h:=?_);(focus (first | (have h3 := cmpL_pre (a:=a) (b:=b) (by simpa using c1);simp [h3,cmpI];first | omega | grind) | (simp;done))))
end Go.Proofs.YtadaeiahfidodaaGreat.Ev
namespace Go.Proofs.YtadaeiahfidodaaGreat.Ev
open Go
set_option maxRecDepth 100000
set_option linter.unusedSimpArgs false
set_option linter.unusedVariables false
set_option maxHeartbeats 2000000
def prevG {α : Type} (l : List α) (i : Nat) : Option α := if i = 0 then none else l[i - 1]?
theorem prevG_succ {α : Type} {l : List α} {i : Nat} {c : α} (h : l[i]? = some c) : prevG l (i + 1) = some c := by simp [prevG,h]
theorem prevE_pos {l : List Et} {i : Nat} (h0 : 0 < i) (h : i ≤ l.length) (hi : i < 2000000000) : ∃ q,q ∈ l ∧ prevG l i = some q ∧ (ets false l)[(IntKind.i64.wrap ((i : Int) - 1)).toNat]? = some (q.v false) ∧ 0 ≤ IntKind.i64.wrap ((i : Int) - 1) := by
  have hw : IntKind.i64.wrap ((i : Int) - 1) = ((i - 1 : Nat) : Int) := by rw [wrap_id (by omega) (by omega)];omega
  have hlt : i - 1 < l.length := by omega
  refine ⟨l[i - 1],List.getElem_mem hlt,?_,?_,by rw [hw];omega⟩
  · unfold prevG;rw [if_neg (by omega)];simp [hlt]
  · rw [hw];exact ets_at hlt
def wOk (n : Int) : Bool := inI n (-1000000000000) 1000000000000
def setR : Option Et → List Et → Int
  | _,[] => 0
  | p,e :: r => if rowF e.row = 0 then (if wOk e.w = false ∨ e.w = 0 then 3 else if (p.elim false fun q => decide (0 ≤ cmpL q.row e.row)) = true then 1 else setR (some e) r) else rowF e.row
def setC (z : List Et) : Int := if 200 < z.length then 2 else setR none z
theorem setR_row {p : Option Et} {e : Et} {r : List Et} (h : ¬ rowF e.row = 0) : setR p (e :: r) = rowF e.row := by rw [setR,if_neg h]
theorem setR_3 {p : Option Et} {e : Et} {r : List Et} (h : rowF e.row = 0) (h2 : wOk e.w = false ∨ e.w = 0) : setR p (e :: r) = 3 := by rw [setR,if_pos h,if_pos h2]
theorem setR_1 {p : Option Et} {e : Et} {r : List Et} (h : rowF e.row = 0) (h2 : ¬ (wOk e.w = false ∨ e.w = 0)) (h3 : (p.elim false fun q => decide (0 ≤ cmpL q.row e.row)) = true) : setR p (e :: r) = 1 := by rw [setR,if_pos h,if_neg h2,if_pos h3]
theorem setR_0 {p : Option Et} {e : Et} {r : List Et} (h : rowF e.row = 0) (h2 : ¬ (wOk e.w = false ∨ e.w = 0)) (h3 : ¬ (p.elim false fun q => decide (0 ≤ cmpL q.row e.row)) = true) : setR p (e :: r) = setR (some e) r := by rw [setR,if_pos h,if_neg h2,if_neg h3]
theorem l_setI (z : List Et) (hz : w_Ets z < 2000000) (hl : z.length ≤ 200) : ∀ i : Nat,(i ≤ z.length) → ∀ s,normE 1 (some [0,9,10,11]) s = ⟨[(0,.lst false 0 (ets false z)),(9,.lst false 0 (ets false z)),(10,.int .i64 z.length),(11,.int .i64 i)],[],1⟩ →
 oc.loop 118 4 s = some (if setR (prevG z i) (z.drop i) = 0 then (.exit 0,⟨[],[],1⟩) else (.ret,⟨[(2,.int .i64 (setR (prevG z i) (z.drop i)))],[],1⟩)) := by
 refine loop_ind (σ:=Nat) (fun i => z.length - i) _ (fun i => ⟨[(0,.lst false 0 (ets false z)),(9,.lst false 0 (ets false z)),(10,.int .i64 z.length),(11,.int .i64 i)],[],1⟩) _ ?_
 intro i hi ih s hs
 refine loop_s cd118 rfl rfl hs ?_
 refine wa_ (wc_region (w_ (b_ (h:=wo_nil (e_ (h:=aft_normal (wa_ (?_))))))))
 refine c_ (h1:=?_) (h2:=?_)
 rotate_right 1
 focus
  intro c1
  first
  | exact dn c1
  | (
   have d1 := c1;try simp at d1
   refine wc_exit (?_)
   )
 rotate_right 1
 focus
  intro c1
  first
  | exact dn c1
  | (
   have d1 := c1;try simp at d1
   have hw := wrap_succ (i:=i) (by omega);obtain ⟨c,hx,e1,g1⟩ := ets_cut (t:=false) (l:=z) (i:=i) (by omega);have hs1 := prevG_succ hx;have hm := w_Ets_mem (List.mem_of_getElem? hx);have hrow : c.row.length < 2000000 := (by unfold w_Et at hm;omega)
   refine wc_skip (?_)
   )
 all_goals first
 | refine aft_exit ?_
 | (
  refine aft_normal ?_
  refine wa_ (wc_block (wa_ (wc_region (w_ (m_ (h:=w_ (x_ (h:=w_ (l_ (h:=w_ (al (h:=w_ (a_ (h:=w0 (s_ (h:=wo_nil (e_ (h:=aft_normal (wa_ (wa_ (wc_region (w_ (f_ (h:=w_ (l_ (h:=w_ (ca (hc:=e_rowI c.row hrow) (h:=w_ (a_ (h:=wo_nil (e_ (h:=aft_normal (wa_ (wc_region (w_ (m_ (h:=w_ (bE (h:=wo_nil (e_ (h:=aft_normal (?_))))))))))))))))))))))))))))))))))))))))))
  refine c_ (h1:=?_) (h2:=?_)
  rotate_right 1
  focus
   intro c2
   first
   | exact dn c2
   | (
    have d2 := c2;try simp at d2
    refine wc_skip (?_)
    )
  rotate_right 1
  focus
   intro c2
   first
   | exact dn c2
   | (
    have d2 := c2;try simp at d2
    refine wa_ (wc_region (w_ (m_ (h:=w_ (a_ (h:=wo_nil (e_ (h:=aft_normal (wc_ret (?_))))))))))
    )
  all_goals first
  | refine aft_ret ?_
  | (
   refine aft_normal ?_
   refine wa_ (wa_ (wc_region (w_ (f_ (h:=w_ (l_ (h:=w_ (ca (hc:=e_isWeight _) (h:=w_ (u_ (h:=w_ (m_ (h:=?_)))))))))))))
   refine gw_ (h1:=?_) (h2:=?_)
   rotate_right 1
   focus
    intro c3
    first
    | exact dn c3
    | (
     have d3 := c3;try simp at d3
     refine go_ (h:=go_ (h:=go_ (h:=?_)))
     )
   rotate_right 1
   focus
    intro c3
    first
    | exact dn c3
    | (
     have d3 := c3;try simp at d3
     refine g_ (h:=w_ (f_ (h:=g_ (h:=w_ (l_ (h:=g_ (h:=w_ (bE (h:=?_)))))))))
     )
   all_goals
    refine w_ (pk (h:=wo_nil (e_ (h:=?_))))
   all_goals first
   | (
    refine aft_normal ?_
    refine c_ (h1:=?_) (h2:=?_)
    rotate_right 1
    focus
     intro c4
     first
     | exact dn c4
     | (
      have d4 := c4;try simp at d4
      refine wc_skip (?_)
      )
    rotate_right 1
    focus
     intro c4
     first
     | exact dn c4
     | (
      have d4 := c4;try simp at d4
      refine wa_ (wc_region (w_ (a_ (h:=wo_nil (e_ (h:=aft_normal (wc_ret (?_))))))))
      )
    )
   all_goals first
   | refine aft_ret ?_
   | (
    refine aft_normal ?_
    refine wa_ (wc_draw (y_ (m_ (h:=ax_ (h:=y_ (b_ (h:=ax_ (h:=y_ (m_ (h:=ax_ (h:=?_)))))))))))
    refine gw_ (h1:=?_) (h2:=?_)
    rotate_right 1
    focus
     intro c5
     first
     | exact dn c5
     | (
      have d5 := c5;try simp at d5
      refine gd_ (h:=gd_ (h:=gd_ (h:=gd_ (h:=gd_ (h:=gd_ (h:=gd_ (h:=gd_ (h:=gd_ (h:=gd_ (h:=?_))))))))))
      )
    rotate_right 1
    focus
     intro c5
     first
     | exact dn c5
     | (
      have d5 := c5;try simp at d5
      obtain ⟨q,hqm,hq,g2,g3⟩ := prevE_pos (l:=z) (i:=i) (by omega) (by omega) (by omega);have hm2 := w_Ets_mem hqm;have hrow2 : q.row.length < 2000000 := (by unfold w_Et at hm2;omega)
      refine g_ (h:=y_ (m_ (h:=ax_ (h:=g_ (h:=y_ (m_ (h:=ax_ (h:=g_ (h:=y_ (b_ (h:=ax_ (h:=g_ (h:=y_ (x_ (h:=ax_ (h:=g_ (h:=y_ (f_ (h:=ax_ (h:=g_ (h:=y_ (l_ (h:=ax_ (h:=g_ (h:=y_ (f_ (h:=ax_ (h:=g_ (h:=y_ (l_ (h:=ax_ (h:=g_ (h:=y_ (ca (hc:=e_cmpRI q.row c.row hrow2 hrow) (h:=ax_ (h:=g_ (h:=y_ (b_ (h:=ax_ (h:=?_))))))))))))))))))))))))))))))))))))))))
      )
    all_goals
     refine y_ (pk (h:=ax_ (h:=wo_nil (ed (h:=?_)))))
    all_goals first
    | (
     refine aft_normal ?_
     refine c_ (h1:=?_) (h2:=?_)
     rotate_right 1
     focus
      intro c6
      first
      | exact dn c6
      | (
       have d6 := c6;try simp at d6
       refine wc_skip (?_)
       )
     rotate_right 1
     focus
      intro c6
      first
      | exact dn c6
      | (
       have d6 := c6;try simp at d6
       refine wa_ (wc_region (w_ (a_ (h:=wo_nil (e_ (h:=aft_normal (wc_ret (?_))))))))
       )
     )
    )
   )
  all_goals first | refine blk_normal ?_ | refine blk_ret ?_
  all_goals first
  | refine aft_ret ?_
  | (
   refine aft_normal ?_
   refine wc_region (w_ (b_ (h:=w_ (m_ (h:=wo_nil (e_ (h:=?_)))))))
   )
  )
 all_goals first
 | (refine (ih (i + 1) (by omega) ?_ _ ?_).trans ?_;(focus (first | omega | (simp;done) | (simp;omega)));(focus (simp [normE,hw];done));(focus (rw [hs1,e1,setR_0 d2 (by simp [wOk,d3,d4]) (by first | (rw [hq];simp;omega) | (subst d5;simp [prevG]))])))
 | (apply end_leaf (ex:=Ext.ret) 1 (some [2]);(focus (simp [normE];rfl));(focus (rw [e1,setR_row d2];simp [d2])))
 | (apply end_leaf (ex:=Ext.ret) 1 (some [2]);(focus (simp [normE];rfl));(focus (rw [e1,setR_3 d2 (by first | exact .inl d3 | exact .inr d4)];simp)))
 | (apply end_leaf (ex:=Ext.ret) 1 (some [2]);(focus (simp [normE];rfl));(focus (rw [e1,setR_1 d2 (by simp [wOk,d3,d4]) (by rw [hq];simp;omega)];simp)))
 | (apply end_leaf (ex:=(Ext.exit 0)) 1 (some [2]);(focus (simp [normE];rfl));(focus (rw [List.drop_eq_nil_of_le (by omega)];simp [setR])))
theorem e_setI (z : List Et) (hz : w_Ets z < 2000000) : oc.call 118 [.lst false 0 (ets false z)] = some (.int .i64 (setC z),[]) := by
 refine fun_s rfl cd118 rfl rfl rfl (by simp;rfl) (by simp;rfl) ?_
 refine wa_ (wc_region (w_ (a_ (h:=wo_nil (e_ (h:=aft_normal (wa_ (wa_ (wc_region (w_ (m_ (h:=w_ (le (h:=w_ (b_ (h:=wo_nil (e_ (h:=aft_normal (?_)))))))))))))))))))
 refine c_ (h1:=?_) (h2:=?_)
 rotate_right 1
 focus
  intro c1
  first
  | exact dn c1
  | (
   have d1 := c1;try simp at d1
   refine wc_skip (?_)
   )
 rotate_right 1
 focus
  intro c1
  first
  | exact dn c1
  | (
   have d1 := c1;try simp at d1
   refine wa_ (wc_region (w_ (a_ (h:=wo_nil (e_ (h:=aft_normal (wc_ret (?_))))))))
   )
 all_goals first
 | refine aft_ret ?_
 | (
  refine aft_normal ?_
  refine wa_ (wa_ (wc_region (w_ (m_ (h:=w_ (le (h:=w_ (m_ (h:=wo_nil (e_ (h:=aft_normal (wc_block (?_)))))))))))))
  refine wc_loopI (l_setI z hz (by omega) 0 (by omega) _ (by simp [normE])) ?_ ?_
  rotate_right 1
  focus
   intro c2
   first
   | exact dn c2
   | (
    have d2 := c2;try simp at d2
    skip
    )
  rotate_right 1
  focus
   intro c2
   first
   | exact dn c2
   | (
    have d2 := c2;try simp at d2
    skip
    )
  all_goals first | refine blk_ret ?_ | refine blk_exit ?_
  all_goals first
  | refine aft_ret ?_
  | (
   refine aft_normal ?_
   refine wa_ (wc_region (w_ (a_ (h:=wo_nil (e_ (h:=aft_normal (wc_ret (?_))))))))
   )
  )
 all_goals (refine fin_ (hr:=(res_tmp rfl res_nil)) (h:=?_);(focus (simp [setC,prevG] at * <;> grind)))
theorem l_setS (z : List Et) (hz : w_Ets z < 2000000) (hl : z.length ≤ 200) : ∀ i : Nat,(i ≤ z.length) → ∀ s,normE 1 (some [0,3]) s = ⟨[(0,.lst false 0 (ets false z)),(3,.int .i64 i)],[],1⟩ →
 oc.loop 129 4 s = some (if setR (prevG z i) (z.drop i) = 0 then (.exit 0,⟨[],[],1⟩) else (.ret,⟨[(2,.int .i64 (setR (prevG z i) (z.drop i)))],[],1⟩)) := by
 refine loop_ind (σ:=Nat) (fun i => z.length - i) _ (fun i => ⟨[(0,.lst false 0 (ets false z)),(3,.int .i64 i)],[],1⟩) _ ?_
 intro i hi ih s hs
 refine loop_s cd129 rfl rfl hs ?_
 refine wa_ (wa_ (wc_region (w_ (m_ (h:=w_ (m_ (h:=w_ (le (h:=w_ (b_ (h:=wo_nil (e_ (h:=aft_normal (?_))))))))))))))
 refine c_ (h1:=?_) (h2:=?_)
 rotate_right 1
 focus
  intro c1
  first
  | exact dn c1
  | (
   have d1 := c1;try simp at d1
   refine wc_exit (?_)
   )
 rotate_right 1
 focus
  intro c1
  first
  | exact dn c1
  | (
   have d1 := c1;try simp at d1
   have hw := wrap_succ (i:=i) (by omega);obtain ⟨c,hx,e1,g1⟩ := ets_cut (t:=false) (l:=z) (i:=i) (by omega);have hs1 := prevG_succ hx;have hm := w_Ets_mem (List.mem_of_getElem? hx);have hrow : c.row.length < 2000000 := (by unfold w_Et at hm;omega)
   refine wc_skip (?_)
   )
 all_goals first
 | refine aft_exit ?_
 | (
  refine aft_normal ?_
  refine wa_ (wc_block (wa_ (wa_ (wc_region (w_ (m_ (h:=w_ (m_ (h:=w_ (x_ (h:=w_ (f_ (h:=w_ (l_ (h:=w_ (ca (hc:=e_rowS c.row hrow) (h:=w_ (a_ (h:=wo_nil (e_ (h:=aft_normal (wa_ (wc_region (w_ (m_ (h:=w_ (bE (h:=wo_nil (e_ (h:=aft_normal (?_)))))))))))))))))))))))))))))))
  refine c_ (h1:=?_) (h2:=?_)
  rotate_right 1
  focus
   intro c2
   first
   | exact dn c2
   | (
    have d2 := c2;try simp at d2
    refine wc_skip (?_)
    )
  rotate_right 1
  focus
   intro c2
   first
   | exact dn c2
   | (
    have d2 := c2;try simp at d2
    refine wa_ (wc_region (w_ (m_ (h:=w_ (a_ (h:=wo_nil (e_ (h:=aft_normal (wc_ret (?_))))))))))
    )
  all_goals first
  | refine aft_ret ?_
  | (
   refine aft_normal ?_
   refine wa_ (wa_ (wc_region (w_ (m_ (h:=w_ (m_ (h:=w_ (x_ (h:=w_ (f_ (h:=w_ (l_ (h:=w_ (ca (hc:=e_l1Weight _) (h:=w_ (u_ (h:=w_ (m_ (h:=?_)))))))))))))))))))
   refine gw_ (h1:=?_) (h2:=?_)
   rotate_right 1
   focus
    intro c3
    first
    | exact dn c3
    | (
     have d3 := c3;try simp at d3
     refine go_ (h:=go_ (h:=go_ (h:=go_ (h:=go_ (h:=go_ (h:=?_))))))
     )
   rotate_right 1
   focus
    intro c3
    first
    | exact dn c3
    | (
     have d3 := c3;try simp at d3
     refine g_ (h:=w_ (m_ (h:=g_ (h:=w_ (m_ (h:=g_ (h:=w_ (x_ (h:=g_ (h:=w_ (f_ (h:=g_ (h:=w_ (l_ (h:=g_ (h:=w_ (bE (h:=?_))))))))))))))))))
     )
   all_goals
    refine w_ (pk (h:=wo_nil (e_ (h:=?_))))
   all_goals first
   | (
    refine aft_normal ?_
    refine c_ (h1:=?_) (h2:=?_)
    rotate_right 1
    focus
     intro c4
     first
     | exact dn c4
     | (
      have d4 := c4;try simp at d4
      refine wc_skip (?_)
      )
    rotate_right 1
    focus
     intro c4
     first
     | exact dn c4
     | (
      have d4 := c4;try simp at d4
      refine wa_ (wc_region (w_ (a_ (h:=wo_nil (e_ (h:=aft_normal (wc_ret (?_))))))))
      )
    )
   all_goals first
   | refine aft_ret ?_
   | (
    refine aft_normal ?_
    refine wa_ (wc_draw (y_ (m_ (h:=ax_ (h:=y_ (b_ (h:=ax_ (h:=y_ (m_ (h:=ax_ (h:=?_)))))))))))
    refine gw_ (h1:=?_) (h2:=?_)
    rotate_right 1
    focus
     intro c5
     first
     | exact dn c5
     | (
      have d5 := c5;try simp at d5
      refine gd_ (h:=gd_ (h:=gd_ (h:=gd_ (h:=gd_ (h:=gd_ (h:=gd_ (h:=gd_ (h:=gd_ (h:=gd_ (h:=gd_ (h:=gd_ (h:=gd_ (h:=?_)))))))))))))
      )
    rotate_right 1
    focus
     intro c5
     first
     | exact dn c5
     | (
      have d5 := c5;try simp at d5
      obtain ⟨q,hqm,hq,g2,g3⟩ := prevE_pos (l:=z) (i:=i) (by omega) (by omega) (by omega);have hm2 := w_Ets_mem hqm;have hrow2 : q.row.length < 2000000 := (by unfold w_Et at hm2;omega);have han := cmpL_anti c.row q.row
      refine g_ (h:=y_ (m_ (h:=ax_ (h:=g_ (h:=y_ (m_ (h:=ax_ (h:=g_ (h:=y_ (x_ (h:=ax_ (h:=g_ (h:=y_ (f_ (h:=ax_ (h:=g_ (h:=y_ (l_ (h:=ax_ (h:=g_ (h:=y_ (m_ (h:=ax_ (h:=g_ (h:=y_ (m_ (h:=ax_ (h:=g_ (h:=y_ (b_ (h:=ax_ (h:=g_ (h:=y_ (x_ (h:=ax_ (h:=g_ (h:=y_ (f_ (h:=ax_ (h:=g_ (h:=y_ (l_ (h:=ax_ (h:=g_ (h:=y_ (ca (hc:=e_cmpRS c.row q.row hrow hrow2) (h:=ax_ (h:=g_ (h:=y_ (b_ (h:=ax_ (h:=?_))))))))))))))))))))))))))))))))))))))))))))))))))))
      )
    all_goals
     refine y_ (pk (h:=ax_ (h:=wo_nil (ed (h:=?_)))))
    all_goals first
    | (
     refine aft_normal ?_
     refine c_ (h1:=?_) (h2:=?_)
     rotate_right 1
     focus
      intro c6
      first
      | exact dn c6
      | (
       have d6 := c6;try simp at d6
       refine wc_skip (?_)
       )
     rotate_right 1
     focus
      intro c6
      first
      | exact dn c6
      | (
       have d6 := c6;try simp at d6
       refine wa_ (wc_region (w_ (a_ (h:=wo_nil (e_ (h:=aft_normal (wc_ret (?_))))))))
       )
     )
    )
   )
  all_goals first | refine blk_normal ?_ | refine blk_ret ?_
  all_goals first
  | refine aft_ret ?_
  | (
   refine aft_normal ?_
   refine wc_region (w_ (m_ (h:=w_ (b_ (h:=w_ (a_ (h:=wo_nil (e_ (h:=?_)))))))))
   )
  )
 all_goals first
 | (refine (ih (i + 1) (by omega) ?_ _ ?_).trans ?_;(focus (first | omega | (simp;done) | (simp;omega)));(focus (simp [normE,hw];done));(focus (rw [hs1,e1,setR_0 d2 (by simp [wOk,d3,d4]) (by first | (rw [hq];simp;omega) | (subst d5;simp [prevG]))])))
 | (apply end_leaf (ex:=Ext.ret) 1 (some [2]);(focus (simp [normE];rfl));(focus (rw [e1,setR_row d2];simp [d2])))
 | (apply end_leaf (ex:=Ext.ret) 1 (some [2]);(focus (simp [normE];rfl));(focus (rw [e1,setR_3 d2 (by first | exact .inl d3 | exact .inr d4)];simp)))
 | (apply end_leaf (ex:=Ext.ret) 1 (some [2]);(focus (simp [normE];rfl));(focus (rw [e1,setR_1 d2 (by simp [wOk,d3,d4]) (by rw [hq];simp;omega)];simp)))
 | (apply end_leaf (ex:=(Ext.exit 0)) 1 (some [2]);(focus (simp [normE];rfl));(focus (rw [List.drop_eq_nil_of_le (by omega)];simp [setR])))
theorem e_setS (z : List Et) (hz : w_Ets z < 2000000) : oc.call 129 [.lst false 0 (ets false z)] = some (.int .i64 (setC z),[]) := by
 refine fun_s rfl cd129 rfl rfl rfl (by simp;rfl) (by simp;rfl) ?_
 refine wa_ (wc_region (w_ (a_ (h:=wo_nil (e_ (h:=aft_normal (wa_ (wa_ (wc_region (w_ (m_ (h:=w_ (le (h:=w_ (b_ (h:=wo_nil (e_ (h:=aft_normal (?_)))))))))))))))))))
 refine c_ (h1:=?_) (h2:=?_)
 rotate_right 1
 focus
  intro c1
  first
  | exact dn c1
  | (
   have d1 := c1;try simp at d1
   refine wc_skip (?_)
   )
 rotate_right 1
 focus
  intro c1
  first
  | exact dn c1
  | (
   have d1 := c1;try simp at d1
   refine wa_ (wc_region (w_ (a_ (h:=wo_nil (e_ (h:=aft_normal (wc_ret (?_))))))))
   )
 all_goals first
 | refine aft_ret ?_
 | (
  refine aft_normal ?_
  refine wa_ (wa_ (wc_region (w_ (a_ (h:=wo_nil (e_ (h:=aft_normal (wc_block (?_)))))))))
  refine wc_loopI (l_setS z hz (by omega) 0 (by omega) _ (by simp [normE])) ?_ ?_
  rotate_right 1
  focus
   intro c2
   first
   | exact dn c2
   | (
    have d2 := c2;try simp at d2
    skip
    )
  rotate_right 1
  focus
   intro c2
   first
   | exact dn c2
   | (
    have d2 := c2;try simp at d2
    skip
    )
  all_goals first | refine blk_ret ?_ | refine blk_exit ?_
  all_goals first
  | refine aft_ret ?_
  | (
   refine aft_normal ?_
   refine wa_ (wc_region (w_ (a_ (h:=wo_nil (e_ (h:=aft_normal (wc_ret (?_))))))))
   )
  )
 all_goals (refine fin_ (hr:=(res_tmp rfl res_nil)) (h:=?_);(focus (simp [setC,prevG] at * <;> grind)))
def widF (z : List Et) (k : Int) : Int := if setC z = 0 then (if z.all (fun e => decide ((e.row.length : Int) = k)) = true then 0 else 1) else setC z
theorem l_widI (z : List Et) (k : Int) (hz : w_Ets z < 2000000) : ∀ i : Nat,(i ≤ z.length) → ∀ s,normE 2 (some [1,13,14,15]) s = ⟨[(1,.int .i64 k),(13,.lst false 0 (ets false z)),(14,.int .i64 z.length),(15,.int .i64 i)],[],2⟩ →
 oc.loop 86 5 s = some (if (z.drop i).all (fun e => decide ((e.row.length : Int) = k)) = true then (.exit 0,⟨[],[],2⟩) else (.ret,⟨[(4,.int .i64 1)],[],2⟩)) := by
 refine loop_ind (σ:=Nat) (fun i => z.length - i) _ (fun i => ⟨[(1,.int .i64 k),(13,.lst false 0 (ets false z)),(14,.int .i64 z.length),(15,.int .i64 i)],[],2⟩) _ ?_
 intro i hi ih s hs
 refine loop_s cd86 rfl rfl hs ?_
 have hzl := w_Ets_len (l:=z)
 refine wa_ (wc_region (w_ (b_ (h:=wo_nil (e_ (h:=aft_normal (wa_ (?_))))))))
 refine c_ (h1:=?_) (h2:=?_)
 rotate_right 1
 focus
  intro c1
  first
  | exact dn c1
  | (
   have d1 := c1;try simp at d1
   refine wc_exit (?_)
   )
 rotate_right 1
 focus
  intro c1
  first
  | exact dn c1
  | (
   have d1 := c1;try simp at d1
   have hw := wrap_succ (i:=i) (by omega);obtain ⟨c,hx,e1,g1⟩ := ets_cut (t:=false) (l:=z) (i:=i) (by omega);have hm := w_Ets_mem (List.mem_of_getElem? hx);have hrow : c.row.length < 2000000 := (by unfold w_Et at hm;omega)
   refine wc_skip (?_)
   )
 all_goals first
 | refine aft_exit ?_
 | (
  refine aft_normal ?_
  refine wa_ (wc_block (wa_ (wc_region (w_ (x_ (h:=w_ (l_ (h:=w_ (al (h:=w0 (s_ (h:=wo_nil (e_ (h:=aft_normal (wa_ (wc_region (w_ (f_ (h:=w_ (l_ (h:=w_ (ca (hc:=e_size 0 (ints c.row) (by simp;omega)) (h:=w_ (m_ (h:=w_ (bE (h:=wo_nil (e_ (h:=aft_normal (?_))))))))))))))))))))))))))))))
  refine c_ (h1:=?_) (h2:=?_)
  rotate_right 1
  focus
   intro c2
   first
   | exact dn c2
   | (
    have d2 := c2;try simp at d2
    refine wc_skip (?_)
    )
  rotate_right 1
  focus
   intro c2
   first
   | exact dn c2
   | (
    have d2 := c2;try simp at d2
    refine wa_ (wc_region (w_ (a_ (h:=wo_nil (e_ (h:=aft_normal (wc_ret (?_))))))))
    )
  all_goals first | refine blk_normal ?_ | refine blk_ret ?_
  all_goals first
  | refine aft_ret ?_
  | (
   refine aft_normal ?_
   refine wc_region (w_ (b_ (h:=w_ (m_ (h:=wo_nil (e_ (h:=?_)))))))
   )
  )
 all_goals first
 | (refine (ih (i + 1) (by omega) ?_ _ ?_).trans ?_;(focus (first | omega | (simp;done) | (simp;omega)));(focus (simp [normE,hw];done));(focus (rw [e1];simp [d2])))
 | (apply end_leaf (ex:=Ext.ret) 2 (some [4]);(focus (simp [normE];rfl));(focus (rw [e1];simp [d2])))
 | (apply end_leaf (ex:=(Ext.exit 0)) 2 (some [4]);(focus (simp [normE];rfl));(focus (rw [List.drop_eq_nil_of_le (by omega)];simp)))
theorem e_widI (z : List Et) (k : Int) (hz : w_Ets z < 2000000) : oc.call 86 [.lst false 0 (ets false z),.int .i64 k] = some (.int .i64 (widF z k),[]) := by
 refine fun_s rfl cd86 rfl rfl rfl (by simp;rfl) (by simp;rfl) ?_
 refine wa_ (wc_region (w_ (a_ (h:=wo_nil (e_ (h:=aft_normal (wa_ (wa_ (wc_region (w_ (m_ (h:=w_ (ca (hc:=e_setI z hz) (h:=w_ (a_ (h:=wo_nil (e_ (h:=aft_normal (wa_ (wc_region (w_ (m_ (h:=w_ (bE (h:=wo_nil (e_ (h:=aft_normal (?_))))))))))))))))))))))))))))
 refine c_ (h1:=?_) (h2:=?_)
 rotate_right 1
 focus
  intro c1
  first
  | exact dn c1
  | (
   have d1 := c1;try simp at d1
   refine wc_skip (?_)
   )
 rotate_right 1
 focus
  intro c1
  first
  | exact dn c1
  | (
   have d1 := c1;try simp at d1
   refine wa_ (wc_region (w_ (m_ (h:=w_ (a_ (h:=wo_nil (e_ (h:=aft_normal (wc_ret (?_))))))))))
   )
 all_goals first
 | refine aft_ret ?_
 | (
  refine aft_normal ?_
  refine wa_ (wa_ (wc_region (w_ (m_ (h:=w_ (le (h:=w_ (m_ (h:=wo_nil (e_ (h:=aft_normal (wc_block (?_)))))))))))))
  refine wc_loopI (l_widI z k hz 0 (by omega) _ (by simp [normE])) ?_ ?_
  rotate_right 1
  focus
   intro c2
   first
   | exact dn c2
   | (
    have d2 := c2;try simp at d2
    skip
    )
  rotate_right 1
  focus
   intro c2
   first
   | exact dn c2
   | (
    have d2 := c2;try simp at d2
    skip
    )
  all_goals first | refine blk_ret ?_ | refine blk_exit ?_
  all_goals first
  | refine aft_ret ?_
  | (
   refine aft_normal ?_
   refine wa_ (wc_region (w_ (a_ (h:=wo_nil (e_ (h:=aft_normal (wc_ret (?_))))))))
   )
  )
 all_goals (refine fin_ (hr:=(res_tmp rfl res_nil)) (h:=?_);(focus (simp [widF] at * <;> grind)))
theorem l_widS (z : List Et) (k : Int) (hz : w_Ets z < 2000000) : ∀ i : Nat,(i ≤ z.length) → ∀ s,normE 2 (some [0,1,6]) s = ⟨[(0,.lst false 0 (ets false z)),(1,.int .i64 k),(6,.int .i64 i)],[],2⟩ →
 oc.loop 105 5 s = some (if (z.drop i).all (fun e => decide ((e.row.length : Int) = k)) = true then (.exit 0,⟨[],[],2⟩) else (.ret,⟨[(4,.int .i64 1)],[],2⟩)) := by
 refine loop_ind (σ:=Nat) (fun i => z.length - i) _ (fun i => ⟨[(0,.lst false 0 (ets false z)),(1,.int .i64 k),(6,.int .i64 i)],[],2⟩) _ ?_
 intro i hi ih s hs
 refine loop_s cd105 rfl rfl hs ?_
 have hzl := w_Ets_len (l:=z)
 refine wa_ (wa_ (wc_region (w_ (m_ (h:=w_ (m_ (h:=w_ (le (h:=w_ (b_ (h:=wo_nil (e_ (h:=aft_normal (?_))))))))))))))
 refine c_ (h1:=?_) (h2:=?_)
 rotate_right 1
 focus
  intro c1
  first
  | exact dn c1
  | (
   have d1 := c1;try simp at d1
   refine wc_exit (?_)
   )
 rotate_right 1
 focus
  intro c1
  first
  | exact dn c1
  | (
   have d1 := c1;try simp at d1
   have hw := wrap_succ (i:=i) (by omega);obtain ⟨c,hx,e1,g1⟩ := ets_cut (t:=false) (l:=z) (i:=i) (by omega)
   refine wc_skip (?_)
   )
 all_goals first
 | refine aft_exit ?_
 | (
  refine aft_normal ?_
  refine wa_ (wc_block (wa_ (wc_region (w_ (m_ (h:=w_ (m_ (h:=w_ (x_ (h:=w_ (f_ (h:=w_ (l_ (h:=w_ (le (h:=w_ (m_ (h:=w_ (bE (h:=wo_nil (e_ (h:=aft_normal (?_)))))))))))))))))))))))
  refine c_ (h1:=?_) (h2:=?_)
  rotate_right 1
  focus
   intro c2
   first
   | exact dn c2
   | (
    have d2 := c2;try simp at d2
    refine wc_skip (?_)
    )
  rotate_right 1
  focus
   intro c2
   first
   | exact dn c2
   | (
    have d2 := c2;try simp at d2
    refine wa_ (wc_region (w_ (a_ (h:=wo_nil (e_ (h:=aft_normal (wc_ret (?_))))))))
    )
  all_goals first | refine blk_normal ?_ | refine blk_ret ?_
  all_goals first
  | refine aft_ret ?_
  | (
   refine aft_normal ?_
   refine wc_region (w_ (m_ (h:=w_ (b_ (h:=w_ (a_ (h:=wo_nil (e_ (h:=?_)))))))))
   )
  )
 all_goals first
 | (refine (ih (i + 1) (by omega) ?_ _ ?_).trans ?_;(focus (first | omega | (simp;done) | (simp;omega)));(focus (simp [normE,hw];done));(focus (rw [e1];simp [d2])))
 | (apply end_leaf (ex:=Ext.ret) 2 (some [4]);(focus (simp [normE];rfl));(focus (rw [e1];simp [d2])))
 | (apply end_leaf (ex:=(Ext.exit 0)) 2 (some [4]);(focus (simp [normE];rfl));(focus (rw [List.drop_eq_nil_of_le (by omega)];simp)))
theorem e_widS (z : List Et) (k : Int) (hz : w_Ets z < 2000000) : oc.call 105 [.lst false 0 (ets false z),.int .i64 k] = some (.int .i64 (widF z k),[]) := by
 refine fun_s rfl cd105 rfl rfl rfl (by simp;rfl) (by simp;rfl) ?_
 refine wa_ (wc_region (w_ (a_ (h:=wo_nil (e_ (h:=aft_normal (wa_ (wa_ (wc_region (w_ (m_ (h:=w_ (ca (hc:=e_setS z hz) (h:=w_ (a_ (h:=wo_nil (e_ (h:=aft_normal (wa_ (wc_region (w_ (m_ (h:=w_ (bE (h:=wo_nil (e_ (h:=aft_normal (?_))))))))))))))))))))))))))))
 refine c_ (h1:=?_) (h2:=?_)
 rotate_right 1
 focus
  intro c1
  first
  | exact dn c1
  | (
   have d1 := c1;try simp at d1
   refine wc_skip (?_)
   )
 rotate_right 1
 focus
  intro c1
  first
  | exact dn c1
  | (
   have d1 := c1;try simp at d1
   refine wa_ (wc_region (w_ (m_ (h:=w_ (a_ (h:=wo_nil (e_ (h:=aft_normal (wc_ret (?_))))))))))
   )
 all_goals first
 | refine aft_ret ?_
 | (
  refine aft_normal ?_
  refine wa_ (wa_ (wc_region (w_ (a_ (h:=wo_nil (e_ (h:=aft_normal (wc_block (?_)))))))))
  refine wc_loopI (l_widS z k hz 0 (by omega) _ (by simp [normE])) ?_ ?_
  rotate_right 1
  focus
   intro c2
   first
   | exact dn c2
   | (
    have d2 := c2;try simp at d2
    skip
    )
  rotate_right 1
  focus
   intro c2
   first
   | exact dn c2
   | (
    have d2 := c2;try simp at d2
    skip
    )
  all_goals first | refine blk_ret ?_ | refine blk_exit ?_
  all_goals first
  | refine aft_ret ?_
  | (
   refine aft_normal ?_
   refine wa_ (wc_region (w_ (a_ (h:=wo_nil (e_ (h:=aft_normal (wc_ret (?_))))))))
   )
  )
 all_goals (refine fin_ (hr:=(res_tmp rfl res_nil)) (h:=?_);(focus (simp [widF] at * <;> grind)))
def dataOk (pl : List Nd) (a side ep : Int) : Bool := inI a 0 ((pl.length : Int) - 1) && (!decide ((ndAt pl a).op = 1) && (inI side 0 1 && ((!decide (side = 1) || (decide ((ndAt pl a).op = 4) || decide ((ndAt pl a).op = 6))) && inI ep 0 1000)))
def sideN (pl : List Nd) (a side : Int) : Int := at0 (widN pl) (if side = 1 then (ndAt pl a).b else (ndAt pl a).a)
def dataC (pl : List Nd) (a side ep : Int) (z : List Et) : Int := if dataOk pl a side ep = true then (if widF z (sideN pl a side) = 0 then (if z.length = 0 then 1 else 0) else widF z (sideN pl a side)) else 3
theorem dataOk_of {pl : List Nd} {a side ep : Int} (h : dataOk pl a side ep = true) : 0 ≤ a ∧ a < pl.length ∧ (ndAt pl a).op ≠ 1 ∧ 0 ≤ side ∧ side ≤ 1 ∧ (side = 1 → (ndAt pl a).op = 4 ∨ (ndAt pl a).op = 6) ∧ 0 ≤ ep ∧ ep ≤ 1000 := by
  simp [dataOk,inI] at h;omega
theorem e_sideW (pl : List Nd) (a side ep : Int) (hp : pl.length < 2000000) (hk : okN pl) (h0 : (lookN pl).2 = 0) (h : dataOk pl a side ep = true) : oc.call 119 [.lst false 0 (nds false 0 pl),.lst false 0 (ints (widN pl)),.int .i64 a,.int .i64 side] = some (.int .i64 (sideN pl a side),[]) := by
 refine fun_s rfl cd119 rfl rfl rfl (by simp;rfl) (by simp;rfl) ?_
 obtain ⟨k1,k2,k3,k4,k5,k6,k7,k8⟩ := dataOk_of h
 obtain ⟨d,hd,g1⟩ := nd_at k1 k2
 rw [ndAt_of hd] at k3 k6
 obtain ⟨o1,o2,o3⟩ := in_at hk h0 k1 hd
 have hl := (look_good hk h0).2.1
 refine wa_ (wc_region (w_ (a_ (h:=wo_nil (e_ (h:=aft_normal (wa_ (wa_ (wc_region (w_ (m_ (h:=w_ (bE (h:=wo_nil (e_ (h:=aft_normal (?_)))))))))))))))))
 refine c_ (h1:=?_) (h2:=?_)
 rotate_right 1
 focus
  intro c1
  first
  | exact dn c1
  | (
   have d1 := c1;try simp at d1
   have g2 := ints_ix (w:=widN pl) (o2 k3).1 (by have := o2 k3;omega);have := o2 k3
   refine wc_skip (?_)
   )
 rotate_right 1
 focus
  intro c1
  first
  | exact dn c1
  | (
   have d1 := c1;try simp at d1
   have g2 := ints_ix (w:=widN pl) (o3 (k6 d1)).1 (by have := o3 (k6 d1);omega);have := o3 (k6 d1)
   refine wa_ (wc_region (w_ (m_ (h:=w_ (m_ (h:=w_ (m_ (h:=w_ (x_ (h:=w_ (f_ (h:=w_ (l_ (h:=w_ (x_ (h:=w_ (l_ (h:=w_ (a_ (h:=wo_nil (e_ (h:=aft_normal (wc_ret (?_))))))))))))))))))))))))
   )
 all_goals first
 | refine aft_ret ?_
 | (
  refine aft_normal ?_
  refine wa_ (wc_region (w_ (m_ (h:=w_ (m_ (h:=w_ (m_ (h:=w_ (x_ (h:=w_ (f_ (h:=w_ (l_ (h:=w_ (x_ (h:=w_ (l_ (h:=w_ (a_ (h:=wo_nil (e_ (h:=aft_normal (wc_ret (?_))))))))))))))))))))))))
  )
 all_goals (refine fin_ (hr:=(res_tmp rfl res_nil)) (h:=?_);(focus (simp only [sideN,ndAt_of hd];simp [d1])))
theorem e_l8Side (d : Nd) (side : Int) : oc.call 106 [d.v false 0,.int .i64 side] = some (.int .i64 (if side = 1 then d.b else d.a),[]) := by
 refine fun_s rfl cd106 rfl rfl rfl (by simp;rfl) (by simp;rfl) ?_
 refine wa_ (wc_region (w_ (bx (h:=w_ (a_ (h:=wo_nil (e_ (h:=aft_normal (wa_ (wa_ (wc_region (w_ (m_ (h:=w_ (bE (h:=wo_nil (e_ (h:=aft_normal (?_)))))))))))))))))))
 refine c_ (h1:=?_) (h2:=?_)
 rotate_right 1
 focus
  intro c1
  refine wc_skip (?_)
 rotate_right 1
 focus
  intro c1
  refine wa_ (wc_region (w_ (f_ (h:=w_ (l_ (h:=w_ (a_ (h:=wo_nil (e_ (h:=aft_normal (wc_ret (?_))))))))))))
 all_goals first
 | refine aft_ret ?_
 | (
  refine aft_normal ?_
  refine wa_ (wc_region (w_ (f_ (h:=w_ (l_ (h:=w_ (a_ (h:=wo_nil (e_ (h:=aft_normal (wc_ret (?_))))))))))))
  )
 all_goals (refine fin_ (hr:=(res_tmp rfl res_nil)) (h:=?_);(focus (first | (simp_all;done) | (simp_all <;> omega) | (simp_all <;> split <;> simp_all <;> omega))))
theorem e_dataI (pl : List Nd) (a side ep : Int) (z : List Et) (hp : pl.length < 2000000) (hk : okN pl) (h0 : (lookN pl).2 = 0) (hz : w_Ets z < 2000000) : oc.call 88 [.lst false 0 (nds false 0 pl),.lst false 0 (ints (widN pl)),.int .i64 a,.int .i64 side,.int .i64 ep,.lst false 0 (ets false z)] = some (.int .i64 (dataC pl a side ep z),[]) := by
 refine fun_s rfl cd88 rfl rfl rfl (by simp;rfl) (by simp;rfl) ?_
 have hw : IntKind.i64.wrap ((pl.length : Int) - 1) = pl.length - 1 := wrap_id (by omega) (by omega)
 have hzl := w_Ets_len (l:=z)
 refine wa_ (wc_region (w_ (a_ (h:=wo_nil (e_ (h:=aft_normal (wa_ (wa_ (wc_region (w_ (m_ (h:=w_ (m_ (h:=w_ (ca (hc:=e_sizeN _ _ (by simp;omega)) (h:=w_ (b_ (h:=w_ (ca (hc:=e_in _ _ _) (h:=w_ (u_ (h:=w_ (m_ (h:=?_))))))))))))))))))))))))
 refine gw_ (h1:=?_) (h2:=?_)
 rotate_right 1
 focus
  intro c1
  first
  | exact dn c1
  | (
   have d1 := c1;try simp at d1
   refine go_ (h:=go_ (h:=go_ (h:=go_ (h:=go_ (h:=go_ (h:=?_))))))
   )
 rotate_right 1
 focus
  intro c1
  first
  | exact dn c1
  | (
   have d1 := c1;try simp at d1
   have hin : 0 ≤ a ∧ a < pl.length := (by simp [inI,hw] at d1;omega);obtain ⟨d,hd,g1⟩ := nd_at hin.1 hin.2
   refine g_ (h:=w_ (m_ (h:=g_ (h:=w_ (m_ (h:=g_ (h:=w_ (x_ (h:=g_ (h:=w_ (f_ (h:=g_ (h:=w_ (l_ (h:=g_ (h:=w_ (bE (h:=?_))))))))))))))))))
   )
 all_goals
  refine w_ (pk (h:=w_ (m_ (h:=?_))))
  refine gw_ (h1:=?_) (h2:=?_)
  rotate_right 1
  focus
   intro c2
   first
   | exact dn c2
   | (
    have d2 := c2;try simp at d2
    refine go_ (h:=go_ (h:=go_ (h:=?_)))
    )
  rotate_right 1
  focus
   intro c2
   first
   | exact dn c2
   | (
    have d2 := c2;try simp at d2
    refine g_ (h:=w_ (m_ (h:=g_ (h:=w_ (ca (hc:=e_in _ _ _) (h:=g_ (h:=w_ (u_ (h:=?_)))))))))
    )
  all_goals
   refine w_ (pk (h:=w_ (m_ (h:=?_))))
   refine gw_ (h1:=?_) (h2:=?_)
   rotate_right 1
   focus
    intro c3
    first
    | exact dn c3
    | (
     have d3 := c3;try simp at d3
     refine go_ (h:=go_ (h:=go_ (h:=?_)))
     )
   rotate_right 1
   focus
    intro c3
    first
    | exact dn c3
    | (
     have d3 := c3;try simp at d3
     refine g_ (h:=w_ (m_ (h:=g_ (h:=w_ (bE (h:=g_ (h:=w_ (m_ (h:=?_)))))))))
     )
   all_goals
    first
    | (
     skip
     refine goN (h:=goN (h:=goN (h:=goN (h:=goN (h:=goN (h:=goN (h:=?_)))))))
     )
    | (
     refine gw_ (h1:=?_) (h2:=?_)
     rotate_right 1
     focus
      intro c4
      first
      | exact dn c4
      | (
       have d4 := c4;try simp at d4
       refine go_ (h:=go_ (h:=go_ (h:=go_ (h:=go_ (h:=go_ (h:=go_ (h:=?_)))))))
       )
     rotate_right 1
     focus
      intro c4
      first
      | exact dn c4
      | (
       have d4 := c4;try simp at d4
       refine g_ (h:=w_ (m_ (h:=g_ (h:=w_ (m_ (h:=g_ (h:=w_ (x_ (h:=g_ (h:=w_ (f_ (h:=g_ (h:=w_ (l_ (h:=g_ (h:=w_ (ca (hc:=e_two _) (h:=g_ (h:=w_ (u_ (h:=?_)))))))))))))))))))))
       )
     )
    all_goals
     first
     | (
      skip
      refine g_ (h:=w_ (pk (h:=?_)))
      )
     | (
      skip
      refine go_ (h:=?_)
      )
     all_goals
      refine w_ (pk (h:=w_ (m_ (h:=?_))))
      refine gw_ (h1:=?_) (h2:=?_)
      rotate_right 1
      focus
       intro c5
       first
       | exact dn c5
       | (
        have d5 := c5;try simp at d5
        refine go_ (h:=go_ (h:=go_ (h:=?_)))
        )
      rotate_right 1
      focus
       intro c5
       first
       | exact dn c5
       | (
        have d5 := c5;try simp at d5
        refine g_ (h:=w_ (m_ (h:=g_ (h:=w_ (ca (hc:=e_in _ _ _) (h:=g_ (h:=w_ (u_ (h:=?_)))))))))
        )
      all_goals
       refine w_ (pk (h:=wo_nil (e_ (h:=?_))))
 all_goals first
 | (
  refine aft_normal ?_
  refine c_ (h1:=?_) (h2:=?_)
  rotate_right 1
  focus
   intro c6
   first
   | exact dn c6
   | (
    have d6 := c6;try simp at d6
    have hok : dataOk pl a side ep = true := (by clear hk hz hzl;simp [dataOk,ndAt_of hd,inI,hw] at *;grind)
    refine wc_skip (?_)
    )
  rotate_right 1
  focus
   intro c6
   first
   | exact dn c6
   | (
    have d6 := c6;try simp at d6
    have hno : dataOk pl a side ep = false := (by clear hk hz hzl;first | (simp [dataOk,inI,hw] at *;grind) | (simp [dataOk,ndAt_of hd,inI,hw] at *;grind))
    refine wa_ (wc_region (w_ (a_ (h:=wo_nil (e_ (h:=aft_normal (wc_ret (?_))))))))
    )
  )
 all_goals first
 | refine aft_ret ?_
 | (
  refine aft_normal ?_
  refine wa_ (wa_ (wc_region (w_ (m_ (h:=w_ (m_ (h:=w_ (m_ (h:=w_ (m_ (h:=w_ (m_ (h:=w_ (ca (hc:=e_sideW pl a side ep hp hk h0 hok) (h:=w_ (ca (hc:=e_widI z _ hz) (h:=w_ (a_ (h:=wo_nil (e_ (h:=aft_normal (wa_ (wc_region (w_ (m_ (h:=w_ (bE (h:=wo_nil (e_ (h:=aft_normal (?_)))))))))))))))))))))))))))))))
  refine c_ (h1:=?_) (h2:=?_)
  rotate_right 1
  focus
   intro c7
   first
   | exact dn c7
   | (
    have d7 := c7;try simp at d7
    refine wc_skip (?_)
    )
  rotate_right 1
  focus
   intro c7
   first
   | exact dn c7
   | (
    have d7 := c7;try simp at d7
    refine wa_ (wc_region (w_ (m_ (h:=w_ (a_ (h:=wo_nil (e_ (h:=aft_normal (wc_ret (?_))))))))))
    )
  all_goals first
  | refine aft_ret ?_
  | (
   refine aft_normal ?_
   refine wa_ (wa_ (wc_region (w_ (m_ (h:=w_ (le (h:=w_ (bE (h:=wo_nil (e_ (h:=aft_normal (?_))))))))))))
   refine c_ (h1:=?_) (h2:=?_)
   rotate_right 1
   focus
    intro c8
    first
    | exact dn c8
    | (
     have d8 := c8;try simp at d8
     refine wc_skip (?_)
     )
   rotate_right 1
   focus
    intro c8
    first
    | exact dn c8
    | (
     have d8 := c8;try simp at d8
     refine wa_ (wc_region (w_ (a_ (h:=wo_nil (e_ (h:=aft_normal (wc_ret (?_))))))))
     )
   all_goals first
   | refine aft_ret ?_
   | (
    refine aft_normal ?_
    refine wa_ (wc_region (w_ (a_ (h:=wo_nil (e_ (h:=aft_normal (wc_ret (?_))))))))
    )
   )
  )
 all_goals (refine fin_ (hr:=(res_tmp rfl res_nil)) (h:=?_);(focus (first | (simp [dataC,hno];done) | (clear hk;simp [dataC,hok,d7];done) | (clear hk;simp [dataC,hok,d7];cases z <;> simp at c8 ⊢ <;> omega))))
theorem e_dataS (pl : List Nd) (a side ep : Int) (z : List Et) (hp : pl.length < 2000000) (hk : okN pl) (h0 : (lookN pl).2 = 0) (hz : w_Ets z < 2000000) : oc.call 72 [.lst false 0 (nds false 0 pl),.int .i64 a,.int .i64 side,.int .i64 ep,.lst false 0 (ets false z)] = some (.int .i64 (dataC pl a side ep z),[]) := by
 refine fun_s rfl cd72 rfl rfl rfl (by simp;rfl) (by simp;rfl) ?_
 have hw : IntKind.i64.wrap ((pl.length : Int) - 1) = pl.length - 1 := wrap_id (by omega) (by omega)
 have w0 : IntKind.i64.wrap (0 - 1) = -1 := wrap_id (by omega) (by omega)
 have w1 : IntKind.i64.wrap (1 - 1) = 0 := wrap_id (by omega) (by omega)
 have w2 : IntKind.i64.wrap (2 - 1) = 1 := wrap_id (by omega) (by omega)
 have hzl := w_Ets_len (l:=z)
 refine wa_ (wc_region (w_ (a_ (h:=wo_nil (e_ (h:=aft_normal (wa_ (wa_ (wc_region (w_ (m_ (h:=w_ (m_ (h:=w_ (le (h:=w_ (b_ (h:=w_ (ca (hc:=e_l1In _ _ _) (h:=w_ (u_ (h:=w_ (m_ (h:=?_))))))))))))))))))))))))
 refine gw_ (h1:=?_) (h2:=?_)
 rotate_right 1
 focus
  intro c1
  first
  | exact dn c1
  | (
   have d1 := c1;try simp at d1
   refine go_ (h:=go_ (h:=go_ (h:=go_ (h:=go_ (h:=go_ (h:=go_ (h:=?_)))))))
   )
 rotate_right 1
 focus
  intro c1
  first
  | exact dn c1
  | (
   have d1 := c1;try simp at d1
   have hin : 0 ≤ a ∧ a < pl.length := (by simp [inI,hw] at d1;omega);obtain ⟨d,hd,g1⟩ := nd_at hin.1 hin.2
   refine g_ (h:=w_ (m_ (h:=g_ (h:=w_ (m_ (h:=g_ (h:=w_ (x_ (h:=g_ (h:=w_ (f_ (h:=g_ (h:=w_ (l_ (h:=g_ (h:=w_ (ca (hc:=e_l3Reads _) (h:=g_ (h:=w_ (bE (h:=?_)))))))))))))))))))))
   )
 all_goals
  refine w_ (pk (h:=w_ (m_ (h:=?_))))
  refine gw_ (h1:=?_) (h2:=?_)
  rotate_right 1
  focus
   intro c2
   first
   | exact dn c2
   | (
    have d2 := c2;try simp at d2
    refine go_ (h:=go_ (h:=go_ (h:=go_ (h:=go_ (h:=go_ (h:=go_ (h:=go_ (h:=go_ (h:=go_ (h:=?_))))))))))
    )
  rotate_right 1
  focus
   intro c2
   first
   | exact dn c2
   | (
    have d2 := c2;try simp at d2
    refine g_ (h:=w_ (m_ (h:=g_ (h:=w_ (m_ (h:=g_ (h:=w_ (m_ (h:=g_ (h:=w_ (x_ (h:=g_ (h:=w_ (f_ (h:=g_ (h:=w_ (l_ (h:=g_ (h:=w_ (ca (hc:=e_l3Reads _) (h:=g_ (h:=w_ (b_ (h:=g_ (h:=w_ (ca (hc:=e_l1In _ _ _) (h:=g_ (h:=w_ (u_ (h:=?_))))))))))))))))))))))))))))))
    )
  all_goals
   refine w_ (pk (h:=w_ (m_ (h:=?_))))
   refine gw_ (h1:=?_) (h2:=?_)
   rotate_right 1
   focus
    intro c3
    first
    | exact dn c3
    | (
     have d3 := c3;try simp at d3
     refine go_ (h:=go_ (h:=go_ (h:=?_)))
     )
   rotate_right 1
   focus
    intro c3
    first
    | exact dn c3
    | (
     have d3 := c3;try simp at d3
     refine g_ (h:=w_ (m_ (h:=g_ (h:=w_ (ca (hc:=e_l1In _ _ _) (h:=g_ (h:=w_ (u_ (h:=?_)))))))))
     )
   all_goals
    refine w_ (pk (h:=wo_nil (e_ (h:=?_))))
 all_goals first
 | (
  refine aft_normal ?_
  refine c_ (h1:=?_) (h2:=?_)
  rotate_right 1
  focus
   intro c4
   first
   | exact dn c4
   | (
    have d4 := c4;try simp at d4
    have hok : dataOk pl a side ep = true := (by clear hk hz hzl;simp [dataOk,ndAt_of hd,inI] at *;grind);obtain ⟨k1,k2,k3,k4,k5,k6,k7,k8⟩ := dataOk_of hok;rw [ndAt_of hd] at k3 k6;obtain ⟨o1,o2,o3⟩ := in_at hk h0 hin.1 hd;have hl := (look_good hk h0).2.1;have hrng : 0 ≤ (if side = 1 then d.b else d.a) ∧ (if side = 1 then d.b else d.a) < (widN pl).length := (by split;(have:=o3 (k6 (by assumption));omega);(have:=o2 k3;omega));have hsd : sideN pl a side = at0 (widN pl) (if side = 1 then d.b else d.a) := (by simp only [sideN,ndAt_of hd])
    refine wc_skip (?_)
    )
  rotate_right 1
  focus
   intro c4
   first
   | exact dn c4
   | (
    have d4 := c4;try simp at d4
    have hno : dataOk pl a side ep = false := (by clear hk hz hzl;first | (simp [dataOk,inI,hw] at *;grind) | (simp [dataOk,ndAt_of hd,inI,hw] at *;grind))
    refine wa_ (wc_region (w_ (a_ (h:=wo_nil (e_ (h:=aft_normal (wc_ret (?_))))))))
    )
  )
 all_goals first
 | refine aft_ret ?_
 | (
  refine aft_normal ?_
  refine wa_ (wa_ (wc_region (w_ (m_ (h:=w_ (m_ (h:=w_ (m_ (h:=w_ (m_ (h:=w_ (x_ (h:=w_ (l_ (h:=w_ (m_ (h:=w_ (ca (hc:=e_l8Side d side) (h:=w_ (ca (hc:=e_l3WidthI pl (widN pl) hp (look_good hk h0).1 _ hrng.1 hrng.2) (h:=w_ (ca (hc:=e_widS z _ hz) (h:=w_ (a_ (h:=wo_nil (e_ (h:=aft_normal (wa_ (wc_region (w_ (m_ (h:=w_ (bE (h:=wo_nil (e_ (h:=aft_normal (?_)))))))))))))))))))))))))))))))))))))
  refine c_ (h1:=?_) (h2:=?_)
  rotate_right 1
  focus
   intro c5
   first
   | exact dn c5
   | (
    have d5 := c5;try simp at d5
    refine wc_skip (?_)
    )
  rotate_right 1
  focus
   intro c5
   first
   | exact dn c5
   | (
    have d5 := c5;try simp at d5
    refine wa_ (wc_region (w_ (m_ (h:=w_ (a_ (h:=wo_nil (e_ (h:=aft_normal (wc_ret (?_))))))))))
    )
  all_goals first
  | refine aft_ret ?_
  | (
   refine aft_normal ?_
   refine wa_ (wa_ (wc_region (w_ (m_ (h:=w_ (le (h:=w_ (bE (h:=wo_nil (e_ (h:=aft_normal (?_))))))))))))
   refine c_ (h1:=?_) (h2:=?_)
   rotate_right 1
   focus
    intro c6
    first
    | exact dn c6
    | (
     have d6 := c6;try simp at d6
     refine wc_skip (?_)
     )
   rotate_right 1
   focus
    intro c6
    first
    | exact dn c6
    | (
     have d6 := c6;try simp at d6
     refine wa_ (wc_region (w_ (a_ (h:=wo_nil (e_ (h:=aft_normal (wc_ret (?_))))))))
     )
   all_goals first
   | refine aft_ret ?_
   | (
    refine aft_normal ?_
    refine wa_ (wc_region (w_ (a_ (h:=wo_nil (e_ (h:=aft_normal (wc_ret (?_))))))))
    )
   )
  )
 all_goals (refine fin_ (hr:=(res_tmp rfl res_nil)) (h:=?_);(focus (first | (simp [dataC,hno];done) | (clear hk;rw [← hsd] at d5 ⊢;simp [dataC,hok,d5];done) | (clear hk;rw [← hsd] at d5;simp [dataC,hok,d5];cases z <;> simp at c6 ⊢ <;> omega))))
end Go.Proofs.YtadaeiahfidodaaGreat.Ev
namespace Go.Proofs.YtadaeiahfidodaaGreat.Ev
open Go
set_option maxRecDepth 100000
set_option linter.unusedSimpArgs false
set_option linter.unusedVariables false
set_option maxHeartbeats 2000000
def frC (pl : List Nd) (f : Fr) : Int := if f.kind = 1 then (if f.news = [] then dataC pl f.node f.side f.ep f.set else 1) else if f.kind = 2 then (if f.node = 0 ∧ f.side = 0 ∧ f.ep = 0 ∧ f.set = [] ∧ f.news ≠ [] then ctsF pl f.news else 1) else 5
def frN0 (pl : List Nd) (f : Fr) : Int := if (lookN pl).2 = 0 then frC pl f else (lookN pl).2
theorem e_frI2 (pl : List Nd) (f : Fr) (hp : pl.length < 2000000) (hk : okN pl) (h0 : (lookN pl).2 = 0) (hf : w_Fr f < 2000000) : oc.call 53 [.lst false 0 (nds false 0 pl),.lst false 0 (ints (widN pl)),f.v false] = some (.int .i64 (frC pl f),[]) := by
 refine fun_s rfl cd53 rfl rfl rfl (by simp;rfl) (by simp;rfl) ?_
 have hf1 : w_Ets f.set < 2000000 := by unfold w_Fr at hf;omega
 have hn0 : (f.news = []) = (f.news.length = 0) := by simp
 have hs0 : (f.set = []) = (f.set.length = 0) := by simp
 refine wa_ (wc_region (w_ (bx (h:=w_ (a_ (h:=wo_nil (e_ (h:=aft_normal (wa_ (wa_ (wc_region (w_ (f_ (h:=w_ (l_ (h:=wo_nil (e_ (h:=aft_normal (wc_block (wa_ (wc_region (w_ (bE (h:=w_ (a_ (h:=wo_nil (e_ (h:=aft_normal (?_)))))))))))))))))))))))))))))
 refine c_ (h1:=?_) (h2:=?_)
 rotate_right 1
 focus
  intro c1
  first
  | exact dn c1
  | (
   have d1 := c1;try simp at d1
   refine wa_ (wc_region (w_ (bE (h:=w_ (a_ (h:=wo_nil (e_ (h:=aft_normal (?_)))))))))
   refine c_ (h1:=?_) (h2:=?_)
   rotate_right 1
   focus
    intro c2
    first
    | exact dn c2
    | (
     have d2 := c2;try simp at d2
     refine wc_skip (?_)
     )
   rotate_right 1
   focus
    intro c2
    first
    | exact dn c2
    | (
     have d2 := c2;try simp at d2
     refine wa_ (wa_ (wc_region (w_ (f_ (h:=w_ (l_ (h:=w_ (bE (h:=w_ (m_ (h:=?_)))))))))))
     refine gw_ (h1:=?_) (h2:=?_)
     rotate_right 1
     focus
      intro c3
      first
      | exact dn c3
      | (
       have d3 := c3;try simp at d3
       refine go_ (h:=go_ (h:=go_ (h:=?_)))
       )
     rotate_right 1
     focus
      intro c3
      first
      | exact dn c3
      | (
       have d3 := c3;try simp at d3
       refine g_ (h:=w_ (f_ (h:=g_ (h:=w_ (l_ (h:=g_ (h:=w_ (bE (h:=?_)))))))))
       )
     all_goals
      refine w_ (pk (h:=w_ (m_ (h:=?_))))
      refine gw_ (h1:=?_) (h2:=?_)
      rotate_right 1
      focus
       intro c4
       first
       | exact dn c4
       | (
        have d4 := c4;try simp at d4
        refine go_ (h:=go_ (h:=go_ (h:=?_)))
        )
      rotate_right 1
      focus
       intro c4
       first
       | exact dn c4
       | (
        have d4 := c4;try simp at d4
        refine g_ (h:=w_ (f_ (h:=g_ (h:=w_ (l_ (h:=g_ (h:=w_ (bE (h:=?_)))))))))
        )
      all_goals
       refine w_ (pk (h:=w_ (m_ (h:=?_))))
       refine gw_ (h1:=?_) (h2:=?_)
       rotate_right 1
       focus
        intro c5
        first
        | exact dn c5
        | (
         have d5 := c5;try simp at d5
         refine go_ (h:=go_ (h:=go_ (h:=go_ (h:=?_))))
         )
       rotate_right 1
       focus
        intro c5
        first
        | exact dn c5
        | (
         have d5 := c5;try simp at d5
         refine g_ (h:=w_ (f_ (h:=g_ (h:=w_ (l_ (h:=g_ (h:=w_ (le (h:=g_ (h:=w_ (b_ (h:=?_))))))))))))
         )
       all_goals
        refine w_ (pk (h:=w_ (m_ (h:=?_))))
        refine gw_ (h1:=?_) (h2:=?_)
        rotate_right 1
        focus
         intro c6
         first
         | exact dn c6
         | (
          have d6 := c6;try simp at d6
          refine go_ (h:=go_ (h:=go_ (h:=go_ (h:=?_))))
          )
        rotate_right 1
        focus
         intro c6
         first
         | exact dn c6
         | (
          have d6 := c6;try simp at d6
          refine g_ (h:=w_ (f_ (h:=g_ (h:=w_ (l_ (h:=g_ (h:=w_ (le (h:=g_ (h:=w_ (bE (h:=?_))))))))))))
          )
        all_goals
         refine w_ (pk (h:=wo_nil (e_ (h:=?_))))
     all_goals first
     | (
      refine aft_normal ?_
      refine c_ (h1:=?_) (h2:=?_)
      rotate_right 1
      focus
       intro c7
       first
       | exact dn c7
       | (
        have d7 := c7;try simp at d7
        refine wc_skip (?_)
        )
      rotate_right 1
      focus
       intro c7
       first
       | exact dn c7
       | (
        have d7 := c7;try simp at d7
        refine wa_ (wc_region (w_ (a_ (h:=wo_nil (e_ (h:=aft_normal (wc_ret (?_))))))))
        )
      )
     all_goals first
     | refine aft_ret ?_
     | (
      refine aft_normal ?_
      refine wa_ (wc_region (w_ (m_ (h:=w_ (f_ (h:=w_ (l_ (h:=w_ (ca (hc:=e_ctsF pl f.news hp) (h:=w_ (a_ (h:=wo_nil (e_ (h:=aft_normal (wc_ret (?_))))))))))))))))
      )
     )
   )
 rotate_right 1
 focus
  intro c1
  first
  | exact dn c1
  | (
   have d1 := c1;try simp at d1
   refine wa_ (wa_ (wc_region (w_ (f_ (h:=w_ (l_ (h:=w_ (le (h:=w_ (b_ (h:=wo_nil (e_ (h:=aft_normal (?_))))))))))))))
   refine c_ (h1:=?_) (h2:=?_)
   rotate_right 1
   focus
    intro c8
    first
    | exact dn c8
    | (
     have d8 := c8;try simp at d8
     refine wc_skip (?_)
     )
   rotate_right 1
   focus
    intro c8
    first
    | exact dn c8
    | (
     have d8 := c8;try simp at d8
     refine wa_ (wc_region (w_ (a_ (h:=wo_nil (e_ (h:=aft_normal (wc_ret (?_))))))))
     )
   all_goals first
   | refine aft_ret ?_
   | (
    refine aft_normal ?_
    refine wa_ (wc_region (w_ (m_ (h:=w_ (m_ (h:=w_ (f_ (h:=w_ (l_ (h:=w_ (f_ (h:=w_ (l_ (h:=w_ (f_ (h:=w_ (l_ (h:=w_ (f_ (h:=w_ (l_ (h:=w_ (ca (hc:=e_dataI pl _ _ _ f.set hp hk h0 hf1) (h:=w_ (a_ (h:=wo_nil (e_ (h:=aft_normal (wc_ret (?_))))))))))))))))))))))))))))))
    )
   )
 all_goals first | refine blk_normal ?_ | refine blk_ret ?_
 all_goals first
 | refine aft_ret ?_
 | (
  refine aft_normal ?_
  refine wa_ (wc_region (w_ (a_ (h:=wo_nil (e_ (h:=aft_normal (wc_ret (?_))))))))
  )
 all_goals (refine fin_ (hr:=(res_tmp rfl res_nil)) (h:=?_);(focus (clear hk hf hf1;simp only [frC,hn0,hs0];simp;grind)))
theorem e_frameS (pl : List Nd) (f : Fr) (hp : pl.length < 2000000) (hk : okN pl) (hf : w_Fr f < 2000000) : oc.call 43 [.lst false 0 (nds false 0 pl),f.v false] = some (.int .i64 (frN0 pl f),[]) := by
 refine fun_s rfl cd43 rfl rfl rfl (by simp;rfl) (by simp;rfl) ?_
 have hf1 : w_Ets f.set < 2000000 := by unfold w_Fr at hf;omega
 have hn0 : (f.news = []) = (f.news.length = 0) := by simp
 have hs0 : (f.set = []) = (f.set.length = 0) := by simp
 refine wa_ (wc_region (w_ (bx (h:=w_ (a_ (h:=wo_nil (e_ (h:=aft_normal (wa_ (wa_ (wc_region (w_ (m_ (h:=w_ (ca (hc:=e_planS pl hp hk) (h:=w_ (a_ (h:=wo_nil (e_ (h:=aft_normal (wa_ (wc_region (w_ (m_ (h:=w_ (bE (h:=wo_nil (e_ (h:=aft_normal (?_))))))))))))))))))))))))))))))
 refine c_ (h1:=?_) (h2:=?_)
 rotate_right 1
 focus
  intro c1
  first
  | exact dn c1
  | (
   have d1 := c1;try simp at d1
   refine wc_skip (?_)
   )
 rotate_right 1
 focus
  intro c1
  first
  | exact dn c1
  | (
   have d1 := c1;try simp at d1
   refine wa_ (wc_region (w_ (m_ (h:=w_ (a_ (h:=wo_nil (e_ (h:=aft_normal (wc_ret (?_))))))))))
   )
 all_goals first
 | refine aft_ret ?_
 | (
  refine aft_normal ?_
  refine wa_ (wa_ (wc_region (w_ (f_ (h:=w_ (l_ (h:=wo_nil (e_ (h:=aft_normal (wc_block (wa_ (wc_region (w_ (bE (h:=w_ (a_ (h:=wo_nil (e_ (h:=aft_normal (?_))))))))))))))))))))
  refine c_ (h1:=?_) (h2:=?_)
  rotate_right 1
  focus
   intro c2
   first
   | exact dn c2
   | (
    have d2 := c2;try simp at d2
    refine wa_ (wc_region (w_ (bE (h:=w_ (a_ (h:=wo_nil (e_ (h:=aft_normal (?_)))))))))
    refine c_ (h1:=?_) (h2:=?_)
    rotate_right 1
    focus
     intro c3
     first
     | exact dn c3
     | (
      have d3 := c3;try simp at d3
      refine wc_skip (?_)
      )
    rotate_right 1
    focus
     intro c3
     first
     | exact dn c3
     | (
      have d3 := c3;try simp at d3
      refine wa_ (wa_ (wc_region (w_ (f_ (h:=w_ (l_ (h:=w_ (bE (h:=w_ (m_ (h:=?_)))))))))))
      refine gw_ (h1:=?_) (h2:=?_)
      rotate_right 1
      focus
       intro c4
       first
       | exact dn c4
       | (
        have d4 := c4;try simp at d4
        refine go_ (h:=go_ (h:=go_ (h:=?_)))
        )
      rotate_right 1
      focus
       intro c4
       first
       | exact dn c4
       | (
        have d4 := c4;try simp at d4
        refine g_ (h:=w_ (f_ (h:=g_ (h:=w_ (l_ (h:=g_ (h:=w_ (bE (h:=?_)))))))))
        )
      all_goals
       refine w_ (pk (h:=w_ (m_ (h:=?_))))
       refine gw_ (h1:=?_) (h2:=?_)
       rotate_right 1
       focus
        intro c5
        first
        | exact dn c5
        | (
         have d5 := c5;try simp at d5
         refine go_ (h:=go_ (h:=go_ (h:=?_)))
         )
       rotate_right 1
       focus
        intro c5
        first
        | exact dn c5
        | (
         have d5 := c5;try simp at d5
         refine g_ (h:=w_ (f_ (h:=g_ (h:=w_ (l_ (h:=g_ (h:=w_ (bE (h:=?_)))))))))
         )
       all_goals
        refine w_ (pk (h:=w_ (m_ (h:=?_))))
        refine gw_ (h1:=?_) (h2:=?_)
        rotate_right 1
        focus
         intro c6
         first
         | exact dn c6
         | (
          have d6 := c6;try simp at d6
          refine go_ (h:=go_ (h:=go_ (h:=go_ (h:=?_))))
          )
        rotate_right 1
        focus
         intro c6
         first
         | exact dn c6
         | (
          have d6 := c6;try simp at d6
          refine g_ (h:=w_ (f_ (h:=g_ (h:=w_ (l_ (h:=g_ (h:=w_ (le (h:=g_ (h:=w_ (b_ (h:=?_))))))))))))
          )
        all_goals
         refine w_ (pk (h:=w_ (m_ (h:=?_))))
         refine gw_ (h1:=?_) (h2:=?_)
         rotate_right 1
         focus
          intro c7
          first
          | exact dn c7
          | (
           have d7 := c7;try simp at d7
           refine go_ (h:=go_ (h:=go_ (h:=go_ (h:=?_))))
           )
         rotate_right 1
         focus
          intro c7
          first
          | exact dn c7
          | (
           have d7 := c7;try simp at d7
           refine g_ (h:=w_ (f_ (h:=g_ (h:=w_ (l_ (h:=g_ (h:=w_ (le (h:=g_ (h:=w_ (bE (h:=?_))))))))))))
           )
         all_goals
          refine w_ (pk (h:=wo_nil (e_ (h:=?_))))
      all_goals first
      | (
       refine aft_normal ?_
       refine c_ (h1:=?_) (h2:=?_)
       rotate_right 1
       focus
        intro c8
        first
        | exact dn c8
        | (
         have d8 := c8;try simp at d8
         refine wc_skip (?_)
         )
       rotate_right 1
       focus
        intro c8
        first
        | exact dn c8
        | (
         have d8 := c8;try simp at d8
         refine wa_ (wc_region (w_ (a_ (h:=wo_nil (e_ (h:=aft_normal (wc_ret (?_))))))))
         )
       )
      all_goals first
      | refine aft_ret ?_
      | (
       refine aft_normal ?_
       refine wa_ (wc_region (w_ (m_ (h:=w_ (f_ (h:=w_ (l_ (h:=w_ (ca (hc:=e_ctsFS pl f.news hp hk) (h:=w_ (a_ (h:=wo_nil (e_ (h:=aft_normal (wc_ret (?_))))))))))))))))
       )
      )
    )
  rotate_right 1
  focus
   intro c2
   first
   | exact dn c2
   | (
    have d2 := c2;try simp at d2
    refine wa_ (wa_ (wc_region (w_ (f_ (h:=w_ (l_ (h:=w_ (le (h:=w_ (b_ (h:=wo_nil (e_ (h:=aft_normal (?_))))))))))))))
    refine c_ (h1:=?_) (h2:=?_)
    rotate_right 1
    focus
     intro c9
     first
     | exact dn c9
     | (
      have d9 := c9;try simp at d9
      refine wc_skip (?_)
      )
    rotate_right 1
    focus
     intro c9
     first
     | exact dn c9
     | (
      have d9 := c9;try simp at d9
      refine wa_ (wc_region (w_ (a_ (h:=wo_nil (e_ (h:=aft_normal (wc_ret (?_))))))))
      )
    all_goals first
    | refine aft_ret ?_
    | (
     refine aft_normal ?_
     refine wa_ (wc_region (w_ (m_ (h:=w_ (f_ (h:=w_ (l_ (h:=w_ (f_ (h:=w_ (l_ (h:=w_ (f_ (h:=w_ (l_ (h:=w_ (f_ (h:=w_ (l_ (h:=w_ (ca (hc:=e_dataS pl _ _ _ f.set hp hk d1 hf1) (h:=w_ (a_ (h:=wo_nil (e_ (h:=aft_normal (wc_ret (?_))))))))))))))))))))))))))))
     )
    )
  all_goals first | refine blk_normal ?_ | refine blk_ret ?_
  all_goals first
  | refine aft_ret ?_
  | (
   refine aft_normal ?_
   refine wa_ (wc_region (w_ (a_ (h:=wo_nil (e_ (h:=aft_normal (wc_ret (?_))))))))
   )
  )
 all_goals (refine fin_ (hr:=(res_tmp rfl res_nil)) (h:=?_);(focus (clear hk hf hf1;simp only [frN0,frC,hn0,hs0,ctsN];simp;grind)))
def batR (pl : List Nd) (a : Int) : List Bt → Int
  | [] => 0
  | b :: r => if dataC pl a b.side b.ep b.set = 0 then batR pl a r else dataC pl a b.side b.ep b.set
theorem batR_0 {pl : List Nd} {a : Int} {b : Bt} {r : List Bt} (h : dataC pl a b.side b.ep b.set = 0) : batR pl a (b :: r) = batR pl a r := by rw [batR,if_pos h]
theorem batR_1 {pl : List Nd} {a : Int} {b : Bt} {r : List Bt} (h : ¬ dataC pl a b.side b.ep b.set = 0) : batR pl a (b :: r) = dataC pl a b.side b.ep b.set := by rw [batR,if_neg h]
def oldC (pl : List Nd) (d : Nd) (h : Hd) : Int :=
  if widF h.oldA (at0 (widN pl) d.a) = 0 then (if d.op = 4 ∨ d.op = 6 then widF h.oldB (at0 (widN pl) d.b) else if h.oldB.length = 0 ∧ ¬ (d.op = 12 ∧ ¬ h.oldA.length = 0) then 0 else 1) else widF h.oldA (at0 (widN pl) d.a)
def heldC (pl : List Nd) (a : Int) (h : Hd) : Int :=
  if staysN (ndAt pl a) = true then (if h.oldA.length = 0 ∧ h.oldB.length = 0 ∧ h.waits.length = 0 ∧ h.told = 0 then 0 else 1)
  else if oldC pl (ndAt pl a) h = 0 then (if 60 < h.waits.length then 2 else if batR pl a h.waits = 0 then (if inI h.told 0 20 = true ∧ (h.told = 0 ∨ (ndAt pl a).op = 12) then 0 else 3) else batR pl a h.waits)
  else oldC pl (ndAt pl a) h
theorem w_Hd_in {h : Hd} (hh : w_Hd h < 2000000) : w_Ets h.oldA < 2000000 ∧ w_Ets h.oldB < 2000000 ∧ w_Bts h.waits < 2000000 := by unfold w_Hd at hh;omega
theorem w_Bt_in {b : Bt} (hb : w_Bt b < 2000000) : w_Ets b.set < 2000000 := by unfold w_Bt at hb;omega
theorem l_batI (pl : List Nd) (a : Int) (d : Nd) (x : Hd) (hp : pl.length < 2000000) (hk : okN pl) (h0 : (lookN pl).2 = 0) (hx : w_Bts x.waits < 2000000) : ∀ i : Nat,(i ≤ x.waits.length) → ∀ s,normE 4 (some [0,1,2,7,9,81,82,83]) s = ⟨[(0,.lst false 0 (nds false 0 pl)),(1,.lst false 0 (ints (widN pl))),(2,.int .i64 a),(7,.ptr 4 0 []),(9,.ptr 5 0 []),(81,.lst false 0 (bts false x.waits)),(82,.int .i64 x.waits.length),(83,.int .i64 i)],[(4,⟨true,false,4,[x.v false],0⟩),(5,⟨true,false,7,[d.v false 0],0⟩)],6⟩ →
 oc.loop 85 20 s = some (if batR pl a (x.waits.drop i) = 0 then (.exit 0,⟨[(7,.ptr 4 0 []),(9,.ptr 5 0 [])],[(4,⟨true,false,4,[x.v false],0⟩),(5,⟨true,false,7,[d.v false 0],0⟩)],6⟩) else (.ret,⟨[(7,.ptr 4 0 []),(8,.int .i64 (batR pl a (x.waits.drop i))),(9,.ptr 5 0 [])],[(4,⟨true,false,4,[x.v false],0⟩),(5,⟨true,false,7,[d.v false 0],0⟩)],6⟩)) := by
 refine loop_ind (σ:=Nat) (fun i => x.waits.length - i) _ (fun i => ⟨[(0,.lst false 0 (nds false 0 pl)),(1,.lst false 0 (ints (widN pl))),(2,.int .i64 a),(7,.ptr 4 0 []),(9,.ptr 5 0 []),(81,.lst false 0 (bts false x.waits)),(82,.int .i64 x.waits.length),(83,.int .i64 i)],[(4,⟨true,false,4,[x.v false],0⟩),(5,⟨true,false,7,[d.v false 0],0⟩)],6⟩) _ ?_
 intro i hi ih s hs
 refine loop_s cd85 rfl rfl hs ?_
 have hlen := w_Bts_len (l:=x.waits)
 refine wa_ (wc_region (w_ (b_ (h:=wo_nil (e_ (h:=aft_normal (wa_ (?_))))))))
 refine c_ (h1:=?_) (h2:=?_)
 rotate_right 1
 focus
  intro c1
  first
  | exact dn c1
  | (
   have d1 := c1;try simp at d1
   refine wc_exit (?_)
   )
 rotate_right 1
 focus
  intro c1
  first
  | exact dn c1
  | (
   have d1 := c1;try simp at d1
   have hw := wrap_succ (i:=i) (by omega);obtain ⟨b,hb,e1,g1⟩ := bts_cut (t:=false) (l:=x.waits) (i:=i) (by omega);have hbw := w_Bts_mem (List.mem_of_getElem? hb)
   refine wc_skip (?_)
   )
 all_goals first
 | refine aft_exit ?_
 | (
  refine aft_normal ?_
  refine wa_ (wc_block (wa_ (wc_region (w_ (x_ (h:=w_ (l_ (h:=w_ (al (h:=w0 (s_ (h:=wo_nil (e_ (h:=aft_normal (wa_ (wc_region (w_ (m_ (h:=w_ (m_ (h:=w_ (m_ (h:=w_ (f_ (h:=w_ (l_ (h:=w_ (f_ (h:=w_ (l_ (h:=w_ (f_ (h:=w_ (l_ (h:=w_ (ca (hc:=e_dataI pl a b.side b.ep b.set hp hk h0 (w_Bt_in (by omega))) (h:=w_ (a_ (h:=wo_nil (e_ (h:=aft_normal (wa_ (wc_region (w_ (m_ (h:=w_ (bE (h:=wo_nil (e_ (h:=?_))))))))))))))))))))))))))))))))))))))))))))))))))
  refine aft_normal (?_)
  refine c_ (h1:=?_) (h2:=?_)
  rotate_right 1
  focus
   intro c2
   first
   | exact dn c2
   | (
    have d2 := c2;try simp at d2
    refine wc_skip (?_)
    )
  rotate_right 1
  focus
   intro c2
   first
   | exact dn c2
   | (
    have d2 := c2;try simp at d2
    refine wa_ (wc_region (w_ (m_ (h:=w_ (a_ (h:=wo_nil (e_ (h:=aft_normal (wc_ret (?_))))))))))
    )
  all_goals first | refine blk_normal ?_ | refine blk_ret ?_
  all_goals first
  | refine aft_ret ?_
  | (
   refine aft_normal ?_
   refine wc_region (w_ (b_ (h:=w_ (m_ (h:=wo_nil (e_ (h:=?_)))))))
   )
  )
 all_goals first
 | (refine (ih (i + 1) (by omega) ?_ _ ?_).trans ?_;(focus (first | omega | (simp;done) | (simp;omega)));(focus (simp [normE,hw];done));(focus (rw [e1,batR_0 d2])))
 | (apply end_leaf (ex:=Ext.ret) 4 (some [7,8,9]);(focus (simp [normE];rfl));(focus (rw [e1,batR_1 d2];simp [d2])))
 | (apply end_leaf (ex:=(Ext.exit 0)) 4 (some [7,8,9]);(focus (simp [normE];rfl));(focus (rw [List.drop_eq_nil_of_le (by omega)];simp [batR])))
theorem e_heldI2 (pl : List Nd) (a : Int) (x : Hd) (hp : pl.length < 2000000) (hk : okN pl) (hc : nodeC pl a = 0) (hx : w_Hd x < 2000000) : oc.call 85 [.lst false 0 (nds false 0 pl),.lst false 0 (ints (widN pl)),.int .i64 a,x.v false] = some (.int .i64 (heldC pl a x),[]) := by
 refine fun_s rfl cd85 rfl rfl rfl (by simp;rfl) (by simp;rfl) ?_
 obtain ⟨k1,k2,k3⟩ := nodeC_zero hc
 obtain ⟨d,hd,g1⟩ := nd_at k2 k3
 obtain ⟨o1,o2,o3⟩ := in_at hk k1 k2 hd
 have hl := (look_good hk k1).2.1
 obtain ⟨hx1,hx2,hx3⟩ := w_Hd_in hx
 have hlA := w_Ets_len (l:=x.oldA)
 have hlB := w_Ets_len (l:=x.oldB)
 have hlW := w_Bts_len (l:=x.waits)
 have hA0 : (x.oldA = []) = (x.oldA.length = 0) := by simp
 have hB0 : (x.oldB = []) = (x.oldB.length = 0) := by simp
 have hW0 : (x.waits = []) = (x.waits.length = 0) := by simp
 have hs1 : IntKind.i64.wrap ((x.oldA.length : Int) + x.oldB.length) = x.oldA.length + x.oldB.length := wrap_id (by omega) (by omega)
 have hs2 : IntKind.i64.wrap (IntKind.i64.wrap ((x.oldA.length : Int) + x.oldB.length) + x.waits.length) = x.oldA.length + x.oldB.length + x.waits.length := by rw [hs1];exact wrap_id (by omega) (by omega)
 refine wa_ (wc_region (w_ (bx (h:=w_ (a_ (h:=wo_nil (e_ (h:=aft_normal (wa_ (wc_region (w_ (m_ (h:=w_ (m_ (h:=w_ (x_ (h:=w_ (l_ (h:=w_ (al (h:=w0 (s_ (h:=wo_nil (e_ (h:=aft_normal (wa_ (wa_ (wc_region (w_ (l_ (h:=w_ (ca (hc:=e_staysI d) (h:=wo_nil (e_ (h:=aft_normal (?_))))))))))))))))))))))))))))))))))))
 refine c_ (h1:=?_) (h2:=?_)
 rotate_right 1
 focus
  intro c1
  first
  | exact dn c1
  | (
   have d1 := c1;try simp at d1
   have ho1 : d.op ≠ 1 := (by intro e;simp [staysN,e] at d1);have hA := o2 ho1;have g2 := ints_ix (w:=widN pl) hA.1 (by omega)
   refine wc_skip (?_)
   )
 rotate_right 1
 focus
  intro c1
  first
  | exact dn c1
  | (
   have d1 := c1;try simp at d1
   refine wa_ (wa_ (wc_region (w_ (f_ (h:=w_ (l_ (h:=w_ (le (h:=w_ (f_ (h:=w_ (l_ (h:=w_ (le (h:=w_ (b_ (h:=w_ (f_ (h:=w_ (l_ (h:=w_ (le (h:=w_ (b_ (h:=w_ (b_ (h:=w_ (m_ (h:=?_)))))))))))))))))))))))))))))
   refine gw_ (h1:=?_) (h2:=?_)
   rotate_right 1
   focus
    intro c2
    first
    | exact dn c2
    | (
     have d2 := c2;try simp at d2
     refine go_ (h:=go_ (h:=go_ (h:=?_)))
     )
   rotate_right 1
   focus
    intro c2
    first
    | exact dn c2
    | (
     have d2 := c2;try simp at d2
     refine g_ (h:=w_ (f_ (h:=g_ (h:=w_ (l_ (h:=g_ (h:=w_ (bE (h:=?_)))))))))
     )
   all_goals
    refine w_ (pk (h:=wo_nil (e_ (h:=?_))))
   all_goals first
   | (
    refine aft_normal ?_
    refine c_ (h1:=?_) (h2:=?_)
    rotate_right 1
    focus
     intro c3
     first
     | exact dn c3
     | (
      have d3 := c3;try simp at d3
      refine wc_skip (?_)
      )
    rotate_right 1
    focus
     intro c3
     first
     | exact dn c3
     | (
      have d3 := c3;try simp at d3
      refine wa_ (wc_region (w_ (a_ (h:=wo_nil (e_ (h:=aft_normal (wc_ret (?_))))))))
      )
    )
   all_goals first
   | refine aft_ret ?_
   | (
    refine aft_normal ?_
    refine wa_ (wc_region (w_ (a_ (h:=wo_nil (e_ (h:=aft_normal (wc_ret (?_))))))))
    )
   )
 all_goals first
 | refine aft_ret ?_
 | (
  refine aft_normal ?_
  refine wa_ (wa_ (wc_draw (y_ (f_ (h:=ax_ (h:=y_ (l_ (h:=ax_ (h:=y_ (m_ (h:=ax_ (h:=y_ (f_ (h:=ax_ (h:=y_ (l_ (h:=ax_ (h:=y_ (x_ (h:=ax_ (h:=y_ (l_ (h:=ax_ (h:=?_))))))))))))))))))))))))
  first | refine y_ (ca (hc:=e_widI x.oldA _ hx1) (h:=?_)) | refine y_ (ca (hc:=e_widI x.oldB _ hx2) (h:=?_))
  refine ax_ (h:=y_ (a_ (h:=ax_ (h:=wo_nil (ed (h:=aft_normal (wa_ (wc_region (w_ (m_ (h:=w_ (bE (h:=wo_nil (e_ (h:=aft_normal (?_))))))))))))))))
  refine c_ (h1:=?_) (h2:=?_)
  rotate_right 1
  focus
   intro c4
   first
   | exact dn c4
   | (
    have d4 := c4;try simp at d4
    refine wc_skip (?_)
    )
  rotate_right 1
  focus
   intro c4
   first
   | exact dn c4
   | (
    have d4 := c4;try simp at d4
    refine wa_ (wc_region (w_ (m_ (h:=w_ (a_ (h:=wo_nil (e_ (h:=aft_normal (wc_ret (?_))))))))))
    )
  all_goals first
  | refine aft_ret ?_
  | (
   refine aft_normal ?_
   refine wa_ (wa_ (wc_region (w_ (f_ (h:=w_ (l_ (h:=w_ (ca (hc:=e_two _) (h:=wo_nil (e_ (h:=aft_normal (?_))))))))))))
   refine c_ (h1:=?_) (h2:=?_)
   rotate_right 1
   focus
    intro c5
    first
    | exact dn c5
    | (
     have d5 := c5;try simp at d5
     refine wa_ (wc_region (w_ (f_ (h:=w_ (l_ (h:=w_ (le (h:=w_ (b_ (h:=wo_nil (e_ (h:=aft_normal (?_)))))))))))))
     refine c_ (h1:=?_) (h2:=?_)
     rotate_right 1
     focus
      intro c6
      first
      | exact dn c6
      | (
       have d6 := c6;try simp at d6
       refine wc_skip (?_)
       )
     rotate_right 1
     focus
      intro c6
      first
      | exact dn c6
      | (
       have d6 := c6;try simp at d6
       refine wa_ (wc_region (w_ (a_ (h:=wo_nil (e_ (h:=aft_normal (wc_ret (?_))))))))
       )
     )
   rotate_right 1
   focus
    intro c5
    first
    | exact dn c5
    | (
     have d5 := c5;try simp at d5
     have hB := o3 d5;have g3 := ints_ix (w:=widN pl) hB.1 (by omega)
     refine wa_ (wc_draw (y_ (f_ (h:=ax_ (h:=y_ (l_ (h:=ax_ (h:=y_ (m_ (h:=ax_ (h:=y_ (f_ (h:=ax_ (h:=y_ (l_ (h:=ax_ (h:=y_ (x_ (h:=ax_ (h:=y_ (l_ (h:=ax_ (h:=?_)))))))))))))))))))))))
     first | refine y_ (ca (hc:=e_widI x.oldA _ hx1) (h:=?_)) | refine y_ (ca (hc:=e_widI x.oldB _ hx2) (h:=?_))
     refine ax_ (h:=y_ (a_ (h:=ax_ (h:=wo_nil (ed (h:=aft_normal (wa_ (wc_region (w_ (m_ (h:=w_ (bE (h:=wo_nil (e_ (h:=aft_normal (?_))))))))))))))))
     refine c_ (h1:=?_) (h2:=?_)
     rotate_right 1
     focus
      intro c7
      first
      | exact dn c7
      | (
       have d7 := c7;try simp at d7
       refine wc_skip (?_)
       )
     rotate_right 1
     focus
      intro c7
      first
      | exact dn c7
      | (
       have d7 := c7;try simp at d7
       refine wa_ (wc_region (w_ (m_ (h:=w_ (a_ (h:=wo_nil (e_ (h:=aft_normal (wc_ret (?_))))))))))
       )
     )
   all_goals first
   | refine aft_ret ?_
   | (
    refine aft_normal ?_
    refine wa_ (wa_ (wc_region (w_ (f_ (h:=w_ (l_ (h:=w_ (bE (h:=w_ (m_ (h:=?_)))))))))))
    refine gw_ (h1:=?_) (h2:=?_)
    rotate_right 1
    focus
     intro c8
     first
     | exact dn c8
     | (
      have d8 := c8;try simp at d8
      refine go_ (h:=go_ (h:=go_ (h:=go_ (h:=?_))))
      )
    rotate_right 1
    focus
     intro c8
     first
     | exact dn c8
     | (
      have d8 := c8;try simp at d8
      refine g_ (h:=w_ (f_ (h:=g_ (h:=w_ (l_ (h:=g_ (h:=w_ (le (h:=g_ (h:=w_ (b_ (h:=?_))))))))))))
      )
    all_goals
     refine w_ (pk (h:=wo_nil (e_ (h:=?_))))
    all_goals first
    | (
     refine aft_normal ?_
     refine c_ (h1:=?_) (h2:=?_)
     rotate_right 1
     focus
      intro c9
      first
      | exact dn c9
      | (
       have d9 := c9;try simp at d9
       refine wc_skip (?_)
       )
     rotate_right 1
     focus
      intro c9
      first
      | exact dn c9
      | (
       have d9 := c9;try simp at d9
       refine wa_ (wc_region (w_ (a_ (h:=wo_nil (e_ (h:=aft_normal (wc_ret (?_))))))))
       )
     )
    all_goals first
    | refine aft_ret ?_
    | (
     refine aft_normal ?_
     refine wa_ (wa_ (wc_region (w_ (f_ (h:=w_ (l_ (h:=w_ (le (h:=w_ (b_ (h:=wo_nil (e_ (h:=aft_normal (?_))))))))))))))
     refine c_ (h1:=?_) (h2:=?_)
     rotate_right 1
     focus
      intro c10
      first
      | exact dn c10
      | (
       have d10 := c10;try simp at d10
       refine wc_skip (?_)
       )
     rotate_right 1
     focus
      intro c10
      first
      | exact dn c10
      | (
       have d10 := c10;try simp at d10
       refine wa_ (wc_region (w_ (a_ (h:=wo_nil (e_ (h:=aft_normal (wc_ret (?_))))))))
       )
     all_goals first
     | refine aft_ret ?_
     | (
      refine aft_normal ?_
      refine wa_ (wa_ (wc_region (w_ (f_ (h:=w_ (l_ (h:=w_ (le (h:=w_ (m_ (h:=wo_nil (e_ (h:=aft_normal (wc_block (?_)))))))))))))))
      refine wc_loopI (l_batI pl a d x hp hk k1 hx3 0 (by omega) _ (by simp [normE])) ?_ ?_
      rotate_right 1
      focus
       intro c11
       first
       | exact dn c11
       | (
        have d11 := c11;try simp at d11
        skip
        )
      rotate_right 1
      focus
       intro c11
       first
       | exact dn c11
       | (
        have d11 := c11;try simp at d11
        skip
        )
      all_goals first | refine blk_ret ?_ | refine blk_exit ?_
      all_goals first
      | refine aft_ret ?_
      | (
       refine aft_normal ?_
       refine wa_ (wa_ (wc_region (w_ (f_ (h:=w_ (l_ (h:=w_ (ca (hc:=e_in _ _ _) (h:=w_ (u_ (h:=w_ (m_ (h:=?_)))))))))))))
       refine gw_ (h1:=?_) (h2:=?_)
       rotate_right 1
       focus
        intro c12
        first
        | exact dn c12
        | (
         have d12 := c12;try simp at d12
         refine go_ (h:=go_ (h:=go_ (h:=go_ (h:=?_))))
         )
       rotate_right 1
       focus
        intro c12
        first
        | exact dn c12
        | (
         have d12 := c12;try simp at d12
         refine g_ (h:=w_ (f_ (h:=g_ (h:=w_ (l_ (h:=g_ (h:=w_ (bE (h:=g_ (h:=w_ (m_ (h:=?_))))))))))))
         )
       all_goals
        first
        | (
         skip
         refine goN (h:=goN (h:=goN (h:=?_)))
         )
        | (
         refine gw_ (h1:=?_) (h2:=?_)
         rotate_right 1
         focus
          intro c13
          first
          | exact dn c13
          | (
           have d13 := c13;try simp at d13
           refine go_ (h:=go_ (h:=go_ (h:=?_)))
           )
         rotate_right 1
         focus
          intro c13
          first
          | exact dn c13
          | (
           have d13 := c13;try simp at d13
           refine g_ (h:=w_ (f_ (h:=g_ (h:=w_ (l_ (h:=g_ (h:=w_ (bE (h:=?_)))))))))
           )
         )
        all_goals
         first
         | (
          skip
          refine g_ (h:=w_ (pk (h:=?_)))
          )
         | (
          skip
          refine go_ (h:=?_)
          )
         all_goals
          refine w_ (pk (h:=wo_nil (e_ (h:=?_))))
       all_goals first
       | (
        refine aft_normal ?_
        refine c_ (h1:=?_) (h2:=?_)
        rotate_right 1
        focus
         intro c14
         first
         | exact dn c14
         | (
          have d14 := c14;try simp at d14
          refine wc_skip (?_)
          )
        rotate_right 1
        focus
         intro c14
         first
         | exact dn c14
         | (
          have d14 := c14;try simp at d14
          refine wa_ (wc_region (w_ (a_ (h:=wo_nil (e_ (h:=aft_normal (wc_ret (?_))))))))
          )
        )
       all_goals first
       | refine aft_ret ?_
       | (
        refine aft_normal ?_
        refine wa_ (wc_region (w_ (a_ (h:=wo_nil (e_ (h:=aft_normal (wc_ret (?_))))))))
        )
       )
      )
     )
    )
   )
  )
 all_goals (refine fin_ (hr:=(res_tmp rfl res_nil)) (h:=?_);(focus (have hnd := ndAt_of hd;clear hk hx hx1 hx2 hx3 hd g1 o1 o2 o3 hl;simp only [heldC,oldC,hnd];simp <;> grind)))
theorem l_batS (pl : List Nd) (a : Int) (x : Hd) (hp : pl.length < 2000000) (hk : okN pl) (h0 : (lookN pl).2 = 0) (hx : w_Bts x.waits < 2000000) : ∀ i : Nat,(i ≤ x.waits.length) → ∀ s,normE 3 (some [0,1,5,9]) s = ⟨[(0,.lst false 0 (nds false 0 pl)),(1,.int .i64 a),(5,.ptr 3 0 []),(9,.int .i64 i)],[(3,⟨true,false,4,[x.v false],0⟩)],4⟩ →
 oc.loop 70 14 s = some (if batR pl a (x.waits.drop i) = 0 then (.exit 0,⟨[(0,.lst false 0 (nds false 0 pl)),(1,.int .i64 a),(5,.ptr 3 0 [])],[(3,⟨true,false,4,[x.v false],0⟩)],4⟩) else (.ret,⟨[(0,.lst false 0 (nds false 0 pl)),(1,.int .i64 a),(5,.ptr 3 0 []),(6,.int .i64 (batR pl a (x.waits.drop i)))],[(3,⟨true,false,4,[x.v false],0⟩)],4⟩)) := by
 refine loop_ind (σ:=Nat) (fun i => x.waits.length - i) _ (fun i => ⟨[(0,.lst false 0 (nds false 0 pl)),(1,.int .i64 a),(5,.ptr 3 0 []),(9,.int .i64 i)],[(3,⟨true,false,4,[x.v false],0⟩)],4⟩) _ ?_
 intro i hi ih s hs
 refine loop_s cd70 rfl rfl hs ?_
 have hlen := w_Bts_len (l:=x.waits)
 refine wa_ (wa_ (wc_region (w_ (m_ (h:=w_ (f_ (h:=w_ (l_ (h:=w_ (le (h:=w_ (b_ (h:=wo_nil (e_ (h:=aft_normal (?_))))))))))))))))
 refine c_ (h1:=?_) (h2:=?_)
 rotate_right 1
 focus
  intro c1
  first
  | exact dn c1
  | (
   have d1 := c1;try simp at d1
   refine wc_exit (?_)
   )
 rotate_right 1
 focus
  intro c1
  first
  | exact dn c1
  | (
   have d1 := c1;try simp at d1
   have hw := wrap_succ (i:=i) (by omega);obtain ⟨b,hb,e1,g1⟩ := bts_cut (t:=false) (l:=x.waits) (i:=i) (by omega);have hbw := w_Bts_mem (List.mem_of_getElem? hb)
   refine wc_skip (?_)
   )
 all_goals first
 | refine aft_exit ?_
 | (
  refine aft_normal ?_
  refine wa_ (wc_block (wa_ (wc_draw (y_ (m_ (h:=ax_ (h:=y_ (m_ (h:=ax_ (h:=y_ (f_ (h:=ax_ (h:=y_ (l_ (h:=ax_ (h:=y_ (m_ (h:=ax_ (h:=y_ (x_ (h:=ax_ (h:=y_ (f_ (h:=ax_ (h:=y_ (l_ (h:=ax_ (h:=y_ (f_ (h:=ax_ (h:=y_ (l_ (h:=ax_ (h:=y_ (m_ (h:=ax_ (h:=y_ (x_ (h:=ax_ (h:=y_ (f_ (h:=ax_ (h:=y_ (l_ (h:=ax_ (h:=y_ (f_ (h:=ax_ (h:=y_ (l_ (h:=ax_ (h:=y_ (m_ (h:=ax_ (h:=y_ (x_ (h:=ax_ (h:=y_ (f_ (h:=ax_ (h:=y_ (l_ (h:=ax_ (h:=y_ (ca (hc:=e_dataS pl a b.side b.ep b.set hp hk h0 (w_Bt_in (by omega))) (h:=ax_ (h:=y_ (a_ (h:=ax_ (h:=wo_nil (ed (h:=aft_normal (wa_ (wc_region (?_)))))))))))))))))))))))))))))))))))))))))))))))))))))))))))))))))))))))))))
  refine w_ (m_ (h:=w_ (bE (h:=wo_nil (e_ (h:=aft_normal (?_)))))))
  refine c_ (h1:=?_) (h2:=?_)
  rotate_right 1
  focus
   intro c2
   first
   | exact dn c2
   | (
    have d2 := c2;try simp at d2
    refine wc_skip (?_)
    )
  rotate_right 1
  focus
   intro c2
   first
   | exact dn c2
   | (
    have d2 := c2;try simp at d2
    refine wa_ (wc_region (w_ (m_ (h:=w_ (a_ (h:=wo_nil (e_ (h:=aft_normal (wc_ret (?_))))))))))
    )
  all_goals first | refine blk_normal ?_ | refine blk_ret ?_
  all_goals first
  | refine aft_ret ?_
  | (
   refine aft_normal ?_
   refine wc_region (w_ (m_ (h:=w_ (b_ (h:=w_ (a_ (h:=wo_nil (e_ (h:=?_)))))))))
   )
  )
 all_goals first
 | (refine (ih (i + 1) (by omega) ?_ _ ?_).trans ?_;(focus (first | omega | (simp;done) | (simp;omega)));(focus (simp [normE,hw];done));(focus (rw [e1,batR_0 d2])))
 | (apply end_leaf (ex:=Ext.ret) 3 (some [0,1,5,6]);(focus (simp [normE];rfl));(focus (rw [e1,batR_1 d2];simp [d2])))
 | (apply end_leaf (ex:=(Ext.exit 0)) 3 (some [0,1,5,6]);(focus (simp [normE];rfl));(focus (rw [List.drop_eq_nil_of_le (by omega)];simp [batR])))
def heldN (pl : List Nd) (a : Int) (x : Hd) : Int := if nodeC pl a = 0 then heldC pl a x else nodeC pl a
theorem e_gath (d : Nd) : oc.call 103 [d.v false 0] = some (.bool (!staysN d),[]) := by
 refine fun_s rfl cd103 rfl rfl rfl (by simp;rfl) (by simp;rfl) ?_
 refine wa_ (wc_region (w_ (bx (h:=w_ (a_ (h:=wo_nil (e_ (h:=aft_normal (wa_ (wc_region (w_ (f_ (h:=w_ (l_ (h:=w_ (ca (hc:=e_linS _) (h:=w_ (u_ (h:=w_ (m_ (h:=?_)))))))))))))))))))))
 refine gw_ (h1:=?_) (h2:=?_)
 rotate_right 1
 focus
  intro c1
  refine go_ (h:=go_ (h:=go_ (h:=?_)))
 rotate_right 1
 focus
  intro c1
  refine g_ (h:=w_ (f_ (h:=g_ (h:=w_ (l_ (h:=g_ (h:=w_ (bE (h:=?_)))))))))
 all_goals
  refine w_ (pk (h:=w_ (a_ (h:=wo_nil (e_ (h:=?_))))))
 all_goals first
 | (
  refine aft_normal ?_
  refine wc_ret (?_)
  )
 all_goals (refine fin_ (hr:=(res_tmp rfl res_nil)) (h:=?_);(focus (simp [staysN,inI] at * <;> grind)))
theorem e_old (pl : List Nd) (a : Int) (x : Hd) (hp : pl.length < 2000000) (hk : okN pl) (hc : nodeC pl a = 0) (ho : staysN (ndAt pl a) = false) (hx : w_Hd x < 2000000) : oc.call 104 [.lst false 0 (nds false 0 pl),.int .i64 a,x.v false] = some (.int .i64 (oldC pl (ndAt pl a) x),[]) := by
 refine fun_s rfl cd104 rfl rfl rfl (by simp;rfl) (by simp;rfl) ?_
 obtain ⟨k1,k2,k3⟩ := nodeC_zero hc
 obtain ⟨d,hd,g1⟩ := nd_at k2 k3
 obtain ⟨o1,o2,o3⟩ := in_at hk k1 k2 hd
 rw [ndAt_of hd] at ho ⊢
 have ho1 : d.op ≠ 1 := by rintro e;simp [staysN,e] at ho
 have hl := (look_good hk k1).2.1
 obtain ⟨hx1,hx2,hx3⟩ := w_Hd_in hx
 have hlA := w_Ets_len (l:=x.oldA)
 have hlB := w_Ets_len (l:=x.oldB)
 refine wa_ (wc_region (w_ (bx (h:=w_ (a_ (h:=wo_nil (e_ (h:=aft_normal (wa_ (wc_region (w_ (m_ (h:=w_ (m_ (h:=w_ (x_ (h:=w_ (l_ (h:=w_ (al (h:=w0 (s_ (h:=wo_nil (e_ (h:=aft_normal (wa_ (wa_ (wc_draw (y_ (f_ (h:=ax_ (h:=y_ (l_ (h:=ax_ (h:=y_ (m_ (h:=ax_ (h:=y_ (f_ (h:=ax_ (h:=y_ (l_ (h:=ax_ (h:=?_))))))))))))))))))))))))))))))))))))))))))))
 first | refine y_ (ca (hc:=e_l3WidthI pl (widN pl) hp (look_good hk k1).1 d.a (o2 ho1).1 (by have := o2 ho1;omega)) (h:=?_)) | refine y_ (ca (hc:=e_l3WidthI pl (widN pl) hp (look_good hk k1).1 d.b (o3 h46).1 (by have := o3 h46;omega)) (h:=?_))
 refine ax_ (h:=?_)
 first | refine y_ (ca (hc:=e_widS x.oldA _ hx1) (h:=?_)) | refine y_ (ca (hc:=e_widS x.oldB _ hx2) (h:=?_))
 refine ax_ (h:=y_ (a_ (h:=ax_ (h:=wo_nil (ed (h:=aft_normal (wa_ (wc_region (w_ (m_ (h:=w_ (bE (h:=wo_nil (e_ (h:=aft_normal (?_))))))))))))))))
 refine c_ (h1:=?_) (h2:=?_)
 rotate_right 1
 focus
  intro c1
  first
  | exact dn c1
  | (
   have d1 := c1;try simp at d1
   refine wc_skip (?_)
   )
 rotate_right 1
 focus
  intro c1
  first
  | exact dn c1
  | (
   have d1 := c1;try simp at d1
   refine wa_ (wc_region (w_ (m_ (h:=w_ (a_ (h:=wo_nil (e_ (h:=aft_normal (wc_ret (?_))))))))))
   )
 all_goals first
 | refine aft_ret ?_
 | (
  refine aft_normal ?_
  refine wa_ (wa_ (wc_region (w_ (f_ (h:=w_ (l_ (h:=w_ (ca (hc:=e_l3Reads _) (h:=w_ (b_ (h:=wo_nil (e_ (h:=aft_normal (?_))))))))))))))
  refine c_ (h1:=?_) (h2:=?_)
  rotate_right 1
  focus
   intro c2
   first
   | exact dn c2
   | (
    have d2 := c2;try simp at d2
    refine wc_skip (?_)
    )
  rotate_right 1
  focus
   intro c2
   first
   | exact dn c2
   | (
    have d2 := c2;try simp at d2
    have h46 : d.op = 4 ∨ d.op = 6 := (by clear hk;grind)
    refine wa_ (wc_draw (y_ (f_ (h:=ax_ (h:=y_ (l_ (h:=ax_ (h:=y_ (m_ (h:=ax_ (h:=y_ (f_ (h:=ax_ (h:=y_ (l_ (h:=ax_ (h:=?_)))))))))))))))))
    first | refine y_ (ca (hc:=e_l3WidthI pl (widN pl) hp (look_good hk k1).1 d.a (o2 ho1).1 (by have := o2 ho1;omega)) (h:=?_)) | refine y_ (ca (hc:=e_l3WidthI pl (widN pl) hp (look_good hk k1).1 d.b (o3 h46).1 (by have := o3 h46;omega)) (h:=?_))
    refine ax_ (h:=?_)
    first | refine y_ (ca (hc:=e_widS x.oldA _ hx1) (h:=?_)) | refine y_ (ca (hc:=e_widS x.oldB _ hx2) (h:=?_))
    refine ax_ (h:=y_ (a_ (h:=ax_ (h:=wo_nil (ed (h:=aft_normal (wc_ret (?_))))))))
    )
  all_goals first
  | refine aft_ret ?_
  | (
   refine aft_normal ?_
   refine wa_ (wa_ (wc_region (w_ (f_ (h:=w_ (l_ (h:=w_ (le (h:=w_ (b_ (h:=w_ (m_ (h:=?_)))))))))))))
   refine gw_ (h1:=?_) (h2:=?_)
   rotate_right 1
   focus
    intro c3
    first
    | exact dn c3
    | (
     have d3 := c3;try simp at d3
     refine go_ (h:=go_ (h:=go_ (h:=go_ (h:=?_))))
     )
   rotate_right 1
   focus
    intro c3
    first
    | exact dn c3
    | (
     have d3 := c3;try simp at d3
     refine g_ (h:=w_ (f_ (h:=g_ (h:=w_ (l_ (h:=g_ (h:=w_ (bE (h:=g_ (h:=w_ (m_ (h:=?_))))))))))))
     )
   all_goals
    first
    | (
     skip
     refine goN (h:=goN (h:=goN (h:=goN (h:=?_))))
     )
    | (
     refine gw_ (h1:=?_) (h2:=?_)
     rotate_right 1
     focus
      intro c4
      first
      | exact dn c4
      | (
       have d4 := c4;try simp at d4
       refine go_ (h:=go_ (h:=go_ (h:=go_ (h:=?_))))
       )
     rotate_right 1
     focus
      intro c4
      first
      | exact dn c4
      | (
       have d4 := c4;try simp at d4
       refine g_ (h:=w_ (f_ (h:=g_ (h:=w_ (l_ (h:=g_ (h:=w_ (le (h:=g_ (h:=w_ (b_ (h:=?_))))))))))))
       )
     )
    all_goals
     first
     | (
      skip
      refine g_ (h:=w_ (pk (h:=?_)))
      )
     | (
      skip
      refine go_ (h:=?_)
      )
     all_goals
      refine w_ (pk (h:=wo_nil (e_ (h:=?_))))
   all_goals first
   | (
    refine aft_normal ?_
    refine c_ (h1:=?_) (h2:=?_)
    rotate_right 1
    focus
     intro c5
     first
     | exact dn c5
     | (
      have d5 := c5;try simp at d5
      refine wc_skip (?_)
      )
    rotate_right 1
    focus
     intro c5
     first
     | exact dn c5
     | (
      have d5 := c5;try simp at d5
      refine wa_ (wc_region (w_ (a_ (h:=wo_nil (e_ (h:=aft_normal (wc_ret (?_))))))))
      )
    )
   all_goals first
   | refine aft_ret ?_
   | (
    refine aft_normal ?_
    refine wa_ (wc_region (w_ (a_ (h:=wo_nil (e_ (h:=aft_normal (wc_ret (?_))))))))
    )
   )
  )
 all_goals (refine fin_ (hr:=(res_tmp rfl res_nil)) (h:=?_);(focus (clear hk;simp only [oldC];simp at * <;> grind)))
theorem e_heldS (pl : List Nd) (a : Int) (x : Hd) (hp : pl.length < 2000000) (hk : okN pl) (hx : w_Hd x < 2000000) : oc.call 70 [.lst false 0 (nds false 0 pl),.int .i64 a,x.v false] = some (.int .i64 (heldN pl a x),[]) := by
 refine fun_s rfl cd70 rfl rfl rfl (by simp;rfl) (by simp;rfl) ?_
 obtain ⟨hx1,hx2,hx3⟩ := w_Hd_in hx
 have hlA := w_Ets_len (l:=x.oldA)
 have hlB := w_Ets_len (l:=x.oldB)
 have hlW := w_Bts_len (l:=x.waits)
 refine wa_ (wc_region (w_ (bx (h:=w_ (a_ (h:=wo_nil (e_ (h:=aft_normal (wa_ (wa_ (wc_region (w_ (m_ (h:=w_ (m_ (h:=w_ (ca (hc:=e_l3Asked pl a hp hk) (h:=w_ (a_ (h:=wo_nil (e_ (h:=aft_normal (wa_ (wc_region (w_ (m_ (h:=w_ (bE (h:=wo_nil (e_ (h:=aft_normal (?_))))))))))))))))))))))))))))))))
 refine c_ (h1:=?_) (h2:=?_)
 rotate_right 1
 focus
  intro c1
  first
  | exact dn c1
  | (
   have d1 := c1;try simp at d1
   obtain ⟨k1,k2,k3⟩ := nodeC_zero d1;obtain ⟨d,hd,g1⟩ := nd_at k2 k3;have hnd := ndAt_of hd
   refine wc_skip (?_)
   )
 rotate_right 1
 focus
  intro c1
  first
  | exact dn c1
  | (
   have d1 := c1;try simp at d1
   refine wa_ (wc_region (w_ (m_ (h:=w_ (a_ (h:=wo_nil (e_ (h:=aft_normal (wc_ret (?_))))))))))
   )
 all_goals first
 | refine aft_ret ?_
 | (
  refine aft_normal ?_
  refine wa_ (wa_ (wc_region (w_ (m_ (h:=w_ (m_ (h:=w_ (x_ (h:=w_ (l_ (h:=w_ (ca (hc:=e_gath d) (h:=w_ (u_ (h:=wo_nil (e_ (h:=aft_normal (?_))))))))))))))))))
  refine c_ (h1:=?_) (h2:=?_)
  rotate_right 1
  focus
   intro c2
   first
   | exact dn c2
   | (
    have d2 := c2;try simp at d2
    refine wc_skip (?_)
    )
  rotate_right 1
  focus
   intro c2
   first
   | exact dn c2
   | (
    have d2 := c2;try simp at d2
    refine wa_ (wa_ (wc_region (w_ (f_ (h:=w_ (l_ (h:=w_ (le (h:=w_ (b_ (h:=w_ (m_ (h:=?_)))))))))))))
    refine gw_ (h1:=?_) (h2:=?_)
    rotate_right 1
    focus
     intro c3
     first
     | exact dn c3
     | (
      have d3 := c3;try simp at d3
      refine go_ (h:=go_ (h:=go_ (h:=go_ (h:=?_))))
      )
    rotate_right 1
    focus
     intro c3
     first
     | exact dn c3
     | (
      have d3 := c3;try simp at d3
      refine g_ (h:=w_ (f_ (h:=g_ (h:=w_ (l_ (h:=g_ (h:=w_ (le (h:=g_ (h:=w_ (b_ (h:=?_))))))))))))
      )
    all_goals
     refine w_ (pk (h:=w_ (m_ (h:=?_))))
     refine gw_ (h1:=?_) (h2:=?_)
     rotate_right 1
     focus
      intro c4
      first
      | exact dn c4
      | (
       have d4 := c4;try simp at d4
       refine go_ (h:=go_ (h:=go_ (h:=go_ (h:=?_))))
       )
     rotate_right 1
     focus
      intro c4
      first
      | exact dn c4
      | (
       have d4 := c4;try simp at d4
       refine g_ (h:=w_ (f_ (h:=g_ (h:=w_ (l_ (h:=g_ (h:=w_ (le (h:=g_ (h:=w_ (b_ (h:=?_))))))))))))
       )
     all_goals
      refine w_ (pk (h:=w_ (m_ (h:=?_))))
      refine gw_ (h1:=?_) (h2:=?_)
      rotate_right 1
      focus
       intro c5
       first
       | exact dn c5
       | (
        have d5 := c5;try simp at d5
        refine go_ (h:=go_ (h:=go_ (h:=?_)))
        )
      rotate_right 1
      focus
       intro c5
       first
       | exact dn c5
       | (
        have d5 := c5;try simp at d5
        refine g_ (h:=w_ (f_ (h:=g_ (h:=w_ (l_ (h:=g_ (h:=w_ (bE (h:=?_)))))))))
        )
      all_goals
       refine w_ (pk (h:=wo_nil (e_ (h:=?_))))
    all_goals first
    | (
     refine aft_normal ?_
     refine c_ (h1:=?_) (h2:=?_)
     rotate_right 1
     focus
      intro c6
      first
      | exact dn c6
      | (
       have d6 := c6;try simp at d6
       refine wc_skip (?_)
       )
     rotate_right 1
     focus
      intro c6
      first
      | exact dn c6
      | (
       have d6 := c6;try simp at d6
       refine wa_ (wc_region (w_ (a_ (h:=wo_nil (e_ (h:=aft_normal (wc_ret (?_))))))))
       )
     )
    all_goals first
    | refine aft_ret ?_
    | (
     refine aft_normal ?_
     refine wa_ (wc_region (w_ (a_ (h:=wo_nil (e_ (h:=aft_normal (wc_ret (?_))))))))
     )
    )
  all_goals first
  | refine aft_ret ?_
  | (
   refine aft_normal ?_
   refine wa_ (wa_ (wc_region (w_ (m_ (h:=w_ (m_ (h:=w_ (l_ (h:=w_ (ca (hc:=e_old pl a x hp hk d1 (by rw [hnd];simpa using d2) hx) (h:=w_ (a_ (h:=wo_nil (e_ (h:=aft_normal (wa_ (wc_region (w_ (m_ (h:=w_ (bE (h:=wo_nil (e_ (h:=aft_normal (?_)))))))))))))))))))))))))
   refine c_ (h1:=?_) (h2:=?_)
   rotate_right 1
   focus
    intro c7
    first
    | exact dn c7
    | (
     have d7 := c7;try simp at d7
     refine wc_skip (?_)
     )
   rotate_right 1
   focus
    intro c7
    first
    | exact dn c7
    | (
     have d7 := c7;try simp at d7
     refine wa_ (wc_region (w_ (m_ (h:=w_ (a_ (h:=wo_nil (e_ (h:=aft_normal (wc_ret (?_))))))))))
     )
   all_goals first
   | refine aft_ret ?_
   | (
    refine aft_normal ?_
    refine wa_ (wa_ (wc_region (w_ (f_ (h:=w_ (l_ (h:=w_ (le (h:=w_ (b_ (h:=wo_nil (e_ (h:=aft_normal (?_))))))))))))))
    refine c_ (h1:=?_) (h2:=?_)
    rotate_right 1
    focus
     intro c8
     first
     | exact dn c8
     | (
      have d8 := c8;try simp at d8
      refine wc_skip (?_)
      )
    rotate_right 1
    focus
     intro c8
     first
     | exact dn c8
     | (
      have d8 := c8;try simp at d8
      refine wa_ (wc_region (w_ (a_ (h:=wo_nil (e_ (h:=aft_normal (wc_ret (?_))))))))
      )
    all_goals first
    | refine aft_ret ?_
    | (
     refine aft_normal ?_
     refine wa_ (wa_ (wc_region (w_ (a_ (h:=wo_nil (e_ (h:=aft_normal (wc_block (?_)))))))))
     refine wc_loopI (l_batS pl a x hp hk k1 hx3 0 (by omega) _ (by simp [normE])) ?_ ?_
     rotate_right 1
     focus
      intro c9
      first
      | exact dn c9
      | (
       have d9 := c9;try simp at d9
       skip
       )
     rotate_right 1
     focus
      intro c9
      first
      | exact dn c9
      | (
       have d9 := c9;try simp at d9
       skip
       )
     all_goals first | refine blk_ret ?_ | refine blk_exit ?_
     all_goals first
     | refine aft_ret ?_
     | (
      refine aft_normal ?_
      refine wa_ (wa_ (wc_region (w_ (f_ (h:=w_ (l_ (h:=w_ (ca (hc:=e_l1In _ _ _) (h:=w_ (u_ (h:=w_ (m_ (h:=?_)))))))))))))
      refine gw_ (h1:=?_) (h2:=?_)
      rotate_right 1
      focus
       intro c10
       first
       | exact dn c10
       | (
        have d10 := c10;try simp at d10
        refine go_ (h:=go_ (h:=go_ (h:=go_ (h:=?_))))
        )
      rotate_right 1
      focus
       intro c10
       first
       | exact dn c10
       | (
        have d10 := c10;try simp at d10
        refine g_ (h:=w_ (f_ (h:=g_ (h:=w_ (l_ (h:=g_ (h:=w_ (bE (h:=g_ (h:=w_ (m_ (h:=?_))))))))))))
        )
      all_goals
       first
       | (
        skip
        refine goN (h:=goN (h:=goN (h:=goN (h:=goN (h:=goN (h:=?_))))))
        )
       | (
        refine gw_ (h1:=?_) (h2:=?_)
        rotate_right 1
        focus
         intro c11
         first
         | exact dn c11
         | (
          have d11 := c11;try simp at d11
          refine go_ (h:=go_ (h:=go_ (h:=go_ (h:=go_ (h:=go_ (h:=?_))))))
          )
        rotate_right 1
        focus
         intro c11
         first
         | exact dn c11
         | (
          have d11 := c11;try simp at d11
          refine g_ (h:=w_ (m_ (h:=g_ (h:=w_ (m_ (h:=g_ (h:=w_ (x_ (h:=g_ (h:=w_ (f_ (h:=g_ (h:=w_ (l_ (h:=g_ (h:=w_ (bE (h:=?_))))))))))))))))))
          )
        )
       all_goals
        first
        | (
         skip
         refine g_ (h:=w_ (pk (h:=?_)))
         )
        | (
         skip
         refine go_ (h:=?_)
         )
        all_goals
         refine w_ (pk (h:=wo_nil (e_ (h:=?_))))
      all_goals first
      | (
       refine aft_normal ?_
       refine c_ (h1:=?_) (h2:=?_)
       rotate_right 1
       focus
        intro c12
        first
        | exact dn c12
        | (
         have d12 := c12;try simp at d12
         refine wc_skip (?_)
         )
       rotate_right 1
       focus
        intro c12
        first
        | exact dn c12
        | (
         have d12 := c12;try simp at d12
         refine wa_ (wc_region (w_ (a_ (h:=wo_nil (e_ (h:=aft_normal (wc_ret (?_))))))))
         )
       )
      all_goals first
      | refine aft_ret ?_
      | (
       refine aft_normal ?_
       refine wa_ (wc_region (w_ (a_ (h:=wo_nil (e_ (h:=aft_normal (wc_ret (?_))))))))
       )
      )
     )
    )
   )
  )
 all_goals (refine fin_ (hr:=(res_tmp rfl res_nil)) (h:=?_);(focus (clear hk;first | (simp only [heldN,heldC,hnd];simp at * <;> grind) | (simp [heldN, *]))))
end Go.Proofs.YtadaeiahfidodaaGreat.Ev
namespace Go.Proofs.YtadaeiahfidodaaGreat.Ev
open Go
set_option maxRecDepth 100000
set_option linter.unusedSimpArgs false
set_option linter.unusedVariables false
set_option maxHeartbeats 2000000
def inbR (pl : List Nd) : List Fr → Int
  | [] => 0
  | f :: r => if frC pl f = 0 then (if f.kind = 1 then inbR pl r else 1) else frC pl f
theorem inbR_0 {pl : List Nd} {f : Fr} {r : List Fr} (h : frC pl f = 0) (h2 : f.kind = 1) : inbR pl (f :: r) = inbR pl r := by rw [inbR,if_pos h,if_pos h2]
theorem inbR_1 {pl : List Nd} {f : Fr} {r : List Fr} (h : frC pl f = 0) (h2 : ¬ f.kind = 1) : inbR pl (f :: r) = 1 := by rw [inbR,if_pos h,if_neg h2]
theorem inbR_2 {pl : List Nd} {f : Fr} {r : List Fr} (h : ¬ frC pl f = 0) : inbR pl (f :: r) = frC pl f := by rw [inbR,if_neg h]
def hdsR (pl : List Nd) : Nat → List Hd → Int
  | _,[] => 0
  | k,h :: r => if heldC pl k h = 0 then hdsR pl (k + 1) r else heldC pl k h
theorem hdsR_0 {pl : List Nd} {k : Nat} {h : Hd} {r : List Hd} (e : heldC pl k h = 0) : hdsR pl k (h :: r) = hdsR pl (k + 1) r := by rw [hdsR,if_pos e]
theorem hdsR_1 {pl : List Nd} {k : Nat} {h : Hd} {r : List Hd} (e : ¬ heldC pl k h = 0) : hdsR pl k (h :: r) = heldC pl k h := by rw [hdsR,if_neg e]
def outOk (pl : List Nd) (o : Rl) : Bool := inI o.node 0 ((pl.length : Int) - 1) && (decide ((ndAt pl o.node).op = 12) && inI o.ep 0 19)
theorem outOk_of {pl : List Nd} {o : Rl} (h : outOk pl o = true) : 0 ≤ o.node ∧ o.node < pl.length := by
  simp [outOk,inI] at h;omega
def outR (pl : List Nd) : List Rl → Int
  | [] => 0
  | o :: r => if outOk pl o = true then (if widF o.set (at0 (widN pl) o.node) = 0 then outR pl r else widF o.set (at0 (widN pl) o.node)) else 3
theorem outR_0 {pl : List Nd} {o : Rl} {r : List Rl} (h : outOk pl o = true) (h2 : widF o.set (at0 (widN pl) o.node) = 0) : outR pl (o :: r) = outR pl r := by rw [outR,if_pos h,if_pos h2]
theorem outR_1 {pl : List Nd} {o : Rl} {r : List Rl} (h : outOk pl o = true) (h2 : ¬ widF o.set (at0 (widN pl) o.node) = 0) : outR pl (o :: r) = widF o.set (at0 (widN pl) o.node) := by rw [outR,if_pos h,if_neg h2]
theorem outR_2 {pl : List Nd} {o : Rl} {r : List Rl} (h : outOk pl o = false) : outR pl (o :: r) = 3 := by rw [outR,if_neg (by simp [h])]
def wkC (pl : List Nd) (w : Wk) : Int :=
  if 60 < w.inbox.length ∨ 400 < w.outs.length then 2
  else if inbR pl w.inbox = 0 then (if ctsF pl w.counts = 0 then (if w.nodes.length = pl.length then (if hdsR pl 0 w.nodes = 0 then (if inI w.top 0 20 = true ∧ (w.ep = -1 ∨ w.ep = w.top) then outR pl w.outs else 3) else hdsR pl 0 w.nodes) else 2) else ctsF pl w.counts)
  else inbR pl w.inbox
theorem w_Wk_in {w : Wk} (h : w_Wk w < 2000000) : w_Frs w.inbox < 2000000 ∧ w.counts.length < 2000000 ∧ w_Hds w.nodes < 2000000 ∧ w_Rls w.outs < 2000000 := by unfold w_Wk at h;omega
theorem w_Rl_in {b : Rl} (hb : w_Rl b < 2000000) : w_Ets b.set < 2000000 := by unfold w_Rl at hb;omega
theorem l_wk1 (pl : List Nd) (w : Wk) (hp : pl.length < 2000000) (hk : okN pl) (h0 : (lookN pl).2 = 0) (hx : w_Frs w.inbox < 2000000) : ∀ i : Nat,(i ≤ w.inbox.length) → ∀ s,normE 3 (some [0,1,5,28,29,30]) s = ⟨[(0,.lst false 0 (nds false 0 pl)),(1,.lst false 0 (ints (widN pl))),(5,.ptr 3 0 []),(28,.lst false 0 (frs false w.inbox)),(29,.int .i64 w.inbox.length),(30,.int .i64 i)],[(3,⟨true,false,7,[w.v false],0⟩)],4⟩ →
 oc.loop 51 4 s = some (if inbR pl (w.inbox.drop i) = 0 then (.exit 0,⟨[(0,.lst false 0 (nds false 0 pl)),(1,.lst false 0 (ints (widN pl))),(5,.ptr 3 0 [])],[(3,⟨true,false,7,[w.v false],0⟩)],4⟩) else (.ret,⟨[(0,.lst false 0 (nds false 0 pl)),(1,.lst false 0 (ints (widN pl))),(5,.ptr 3 0 []),(6,.int .i64 (inbR pl (w.inbox.drop i)))],[(3,⟨true,false,7,[w.v false],0⟩)],4⟩)) := by
 refine loop_ind (σ:=Nat) (fun i => w.inbox.length - i) _ (fun i => ⟨[(0,.lst false 0 (nds false 0 pl)),(1,.lst false 0 (ints (widN pl))),(5,.ptr 3 0 []),(28,.lst false 0 (frs false w.inbox)),(29,.int .i64 w.inbox.length),(30,.int .i64 i)],[(3,⟨true,false,7,[w.v false],0⟩)],4⟩) _ ?_
 intro i hi ih s hs
 refine loop_s cd51 rfl rfl hs ?_
 have hlen := w_Frs_len (l:=w.inbox)
 refine wa_ (wc_region (w_ (b_ (h:=wo_nil (e_ (h:=aft_normal (wa_ (?_))))))))
 refine c_ (h1:=?_) (h2:=?_)
 rotate_right 1
 focus
  intro c1
  first
  | exact dn c1
  | (
   have d1 := c1;try simp at d1
   refine wc_exit (?_)
   )
 rotate_right 1
 focus
  intro c1
  first
  | exact dn c1
  | (
   have d1 := c1;try simp at d1
   have hw := wrap_succ (i:=i) (by omega);obtain ⟨b,hb,e1,g1⟩ := frs_cut (t:=false) (l:=w.inbox) (i:=i) (by omega);have hbw := w_Frs_mem (List.mem_of_getElem? hb)
   refine wc_skip (?_)
   )
 all_goals first
 | refine aft_exit ?_
 | (
  refine aft_normal ?_
  refine wa_ (wc_block (wa_ (wc_region (w_ (x_ (h:=w_ (l_ (h:=w_ (al (h:=w0 (s_ (h:=wo_nil (e_ (h:=aft_normal (wa_ (wa_ (wc_region (w_ (m_ (h:=w_ (m_ (h:=w_ (l_ (h:=w_ (ca (hc:=e_frI2 pl b hp hk h0 (by omega)) (h:=w_ (a_ (h:=wo_nil (e_ (h:=aft_normal (wa_ (wc_region (w_ (m_ (h:=w_ (bE (h:=wo_nil (e_ (h:=aft_normal (?_))))))))))))))))))))))))))))))))))))))))
  refine c_ (h1:=?_) (h2:=?_)
  rotate_right 1
  focus
   intro c2
   first
   | exact dn c2
   | (
    have d2 := c2;try simp at d2
    refine wc_skip (?_)
    )
  rotate_right 1
  focus
   intro c2
   first
   | exact dn c2
   | (
    have d2 := c2;try simp at d2
    refine wa_ (wc_region (w_ (m_ (h:=w_ (a_ (h:=wo_nil (e_ (h:=aft_normal (wc_ret (?_))))))))))
    )
  all_goals first
  | refine aft_ret ?_
  | (
   refine aft_normal ?_
   refine wa_ (wc_region (w_ (f_ (h:=w_ (l_ (h:=w_ (bE (h:=wo_nil (e_ (h:=aft_normal (?_)))))))))))
   refine c_ (h1:=?_) (h2:=?_)
   rotate_right 1
   focus
    intro c3
    first
    | exact dn c3
    | (
     have d3 := c3;try simp at d3
     refine wc_skip (?_)
     )
   rotate_right 1
   focus
    intro c3
    first
    | exact dn c3
    | (
     have d3 := c3;try simp at d3
     refine wa_ (wc_region (w_ (a_ (h:=wo_nil (e_ (h:=aft_normal (wc_ret (?_))))))))
     )
   )
  all_goals first | refine blk_normal ?_ | refine blk_ret ?_
  all_goals first
  | refine aft_ret ?_
  | (
   refine aft_normal ?_
   refine wc_region (w_ (b_ (h:=w_ (m_ (h:=wo_nil (e_ (h:=?_)))))))
   )
  )
 all_goals first
 | (refine (ih (i + 1) (by omega) ?_ _ ?_).trans ?_;(focus (first | omega | (simp;done) | (simp;omega)));(focus (simp [normE,hw];done));(focus (rw [e1,inbR_0 d2 d3])))
 | (apply end_leaf (ex:=Ext.ret) 3 (some [0,1,5,6]);(focus (simp [normE];rfl));(focus (rw [e1,inbR_2 d2];simp [d2])))
 | (apply end_leaf (ex:=Ext.ret) 3 (some [0,1,5,6]);(focus (simp [normE];rfl));(focus (rw [e1,inbR_1 d2 d3];simp)))
 | (apply end_leaf (ex:=(Ext.exit 0)) 3 (some [0,1,5,6]);(focus (simp [normE];rfl));(focus (rw [List.drop_eq_nil_of_le (by omega)];simp [inbR])))
theorem l_wk2 (pl : List Nd) (w : Wk) (hp : pl.length < 2000000) (hk : okN pl) (h0 : (lookN pl).2 = 0) (hx : w_Hds w.nodes < 2000000) (hl : w.nodes.length = pl.length) : ∀ i : Nat,(i ≤ w.nodes.length) → ∀ s,normE 3 (some [0,1,5,59,60,61]) s = ⟨[(0,.lst false 0 (nds false 0 pl)),(1,.lst false 0 (ints (widN pl))),(5,.ptr 3 0 []),(59,.lst false 0 (hds false w.nodes)),(60,.int .i64 w.nodes.length),(61,.int .i64 i)],[(3,⟨true,false,7,[w.v false],0⟩)],4⟩ →
 oc.loop 51 18 s = some (if hdsR pl i (w.nodes.drop i) = 0 then (.exit 2,⟨[(0,.lst false 0 (nds false 0 pl)),(1,.lst false 0 (ints (widN pl))),(5,.ptr 3 0 [])],[(3,⟨true,false,7,[w.v false],0⟩)],4⟩) else (.ret,⟨[(0,.lst false 0 (nds false 0 pl)),(1,.lst false 0 (ints (widN pl))),(5,.ptr 3 0 []),(6,.int .i64 (hdsR pl i (w.nodes.drop i)))],[(3,⟨true,false,7,[w.v false],0⟩)],4⟩)) := by
 refine loop_ind (σ:=Nat) (fun i => w.nodes.length - i) _ (fun i => ⟨[(0,.lst false 0 (nds false 0 pl)),(1,.lst false 0 (ints (widN pl))),(5,.ptr 3 0 []),(59,.lst false 0 (hds false w.nodes)),(60,.int .i64 w.nodes.length),(61,.int .i64 i)],[(3,⟨true,false,7,[w.v false],0⟩)],4⟩) _ ?_
 intro i hi ih s hs
 refine loop_s cd51 rfl rfl hs ?_
 have hlen := w_Hds_len (l:=w.nodes)
 refine wa_ (wc_region (w_ (b_ (h:=wo_nil (e_ (h:=aft_normal (wa_ (?_))))))))
 refine c_ (h1:=?_) (h2:=?_)
 rotate_right 1
 focus
  intro c1
  first
  | exact dn c1
  | (
   have d1 := c1;try simp at d1
   refine wc_exit (?_)
   )
 rotate_right 1
 focus
  intro c1
  first
  | exact dn c1
  | (
   have d1 := c1;try simp at d1
   have hw := wrap_succ (i:=i) (by omega);obtain ⟨b,hb,e1,g1⟩ := hds_cut (t:=false) (l:=w.nodes) (i:=i) (by omega);have hbw := w_Hds_mem (List.mem_of_getElem? hb);have hnc : nodeC pl i = 0 := (by unfold nodeC;rw [if_pos h0,if_pos (by simp [inI];omega)])
   refine wc_skip (?_)
   )
 all_goals first
 | refine aft_exit ?_
 | (
  refine aft_normal ?_
  refine wa_ (wc_block (wa_ (wc_region (w_ (m_ (h:=w_ (x_ (h:=w_ (l_ (h:=w_ (al (h:=w_ (a_ (h:=w0 (s_ (h:=wo_nil (e_ (h:=aft_normal (wa_ (wc_region (w_ (m_ (h:=w_ (m_ (h:=w_ (m_ (h:=w_ (l_ (h:=w_ (ca (hc:=e_heldI2 pl i b hp hk hnc (by omega)) (h:=w_ (a_ (h:=wo_nil (e_ (h:=aft_normal (wa_ (wc_region (w_ (m_ (h:=w_ (bE (h:=wo_nil (e_ (h:=aft_normal (?_)))))))))))))))))))))))))))))))))))))))))))))
  refine c_ (h1:=?_) (h2:=?_)
  rotate_right 1
  focus
   intro c2
   first
   | exact dn c2
   | (
    have d2 := c2;try simp at d2
    refine wc_skip (?_)
    )
  rotate_right 1
  focus
   intro c2
   first
   | exact dn c2
   | (
    have d2 := c2;try simp at d2
    refine wa_ (wc_region (w_ (m_ (h:=w_ (a_ (h:=wo_nil (e_ (h:=aft_normal (wc_ret (?_))))))))))
    )
  all_goals first | refine blk_normal ?_ | refine blk_ret ?_
  all_goals first
  | refine aft_ret ?_
  | (
   refine aft_normal ?_
   refine wc_region (w_ (b_ (h:=w_ (m_ (h:=wo_nil (e_ (h:=?_)))))))
   )
  )
 all_goals first
 | (refine (ih (i + 1) (by omega) ?_ _ ?_).trans ?_;(focus (first | omega | (simp;done) | (simp;omega)));(focus (simp [normE,hw];done));(focus (rw [e1,hdsR_0 d2])))
 | (apply end_leaf (ex:=Ext.ret) 3 (some [0,1,5,6]);(focus (simp [normE];rfl));(focus (rw [e1,hdsR_1 d2];simp [d2])))
 | (apply end_leaf (ex:=(Ext.exit 2)) 3 (some [0,1,5,6]);(focus (simp [normE];rfl));(focus (rw [List.drop_eq_nil_of_le (by omega)];simp [hdsR])))
theorem l_wk3 (pl : List Nd) (w : Wk) (hp : pl.length < 2000000) (hk : okN pl) (h0 : (lookN pl).2 = 0) (hx : w_Rls w.outs < 2000000) : ∀ i : Nat,(i ≤ w.outs.length) → ∀ s,normE 3 (some [0,1,92,93,94]) s = ⟨[(0,.lst false 0 (nds false 0 pl)),(1,.lst false 0 (ints (widN pl))),(92,.lst false 0 (rls false w.outs)),(93,.int .i64 w.outs.length),(94,.int .i64 i)],[],3⟩ →
 oc.loop 51 27 s = some (if outR pl (w.outs.drop i) = 0 then (.exit 4,⟨[],[],3⟩) else (.ret,⟨[(6,.int .i64 (outR pl (w.outs.drop i)))],[],3⟩)) := by
 refine loop_ind (σ:=Nat) (fun i => w.outs.length - i) _ (fun i => ⟨[(0,.lst false 0 (nds false 0 pl)),(1,.lst false 0 (ints (widN pl))),(92,.lst false 0 (rls false w.outs)),(93,.int .i64 w.outs.length),(94,.int .i64 i)],[],3⟩) _ ?_
 intro i hi ih s hs
 refine loop_s cd51 rfl rfl hs ?_
 have hlen := w_Rls_len (l:=w.outs)
 have hwl : IntKind.i64.wrap ((pl.length : Int) - 1) = pl.length - 1 := wrap_id (by omega) (by omega)
 have hll := (look_good hk h0).2.1
 refine wa_ (wc_region (w_ (b_ (h:=wo_nil (e_ (h:=aft_normal (wa_ (?_))))))))
 refine c_ (h1:=?_) (h2:=?_)
 rotate_right 1
 focus
  intro c1
  first
  | exact dn c1
  | (
   have d1 := c1;try simp at d1
   refine wc_exit (?_)
   )
 rotate_right 1
 focus
  intro c1
  first
  | exact dn c1
  | (
   have d1 := c1;try simp at d1
   have hw := wrap_succ (i:=i) (by omega);obtain ⟨b,hb,e1,g1⟩ := rls_cut (t:=false) (l:=w.outs) (i:=i) (by omega);have hbw := w_Rls_mem (List.mem_of_getElem? hb)
   refine wc_skip (?_)
   )
 all_goals first
 | refine aft_exit ?_
 | (
  refine aft_normal ?_
  refine wa_ (wc_block (wa_ (wc_region (w_ (x_ (h:=w_ (l_ (h:=w_ (al (h:=w0 (s_ (h:=wo_nil (e_ (h:=aft_normal (wa_ (wa_ (wc_draw (y_ (f_ (h:=ax_ (h:=y_ (l_ (h:=ax_ (h:=y_ (m_ (h:=ax_ (h:=y_ (ca (hc:=e_sizeN _ _ (by simp;omega)) (h:=ax_ (h:=y_ (b_ (h:=ax_ (h:=y_ (ca (hc:=e_in _ _ _) (h:=ax_ (h:=y_ (u_ (h:=ax_ (h:=y_ (m_ (h:=ax_ (h:=?_))))))))))))))))))))))))))))))))))))))))))
  refine gw_ (h1:=?_) (h2:=?_)
  rotate_right 1
  focus
   intro c2
   first
   | exact dn c2
   | (
    have d2 := c2;try simp at d2
    refine gd_ (h:=gd_ (h:=gd_ (h:=gd_ (h:=gd_ (h:=gd_ (h:=gd_ (h:=?_)))))))
    )
  rotate_right 1
  focus
   intro c2
   first
   | exact dn c2
   | (
    have d2 := c2;try simp at d2
    have hin : 0 ≤ b.node ∧ b.node < pl.length := (by simp [inI,hwl] at d2;omega);obtain ⟨d,hd,g3⟩ := nd_at hin.1 hin.2
    refine g_ (h:=y_ (m_ (h:=ax_ (h:=g_ (h:=y_ (f_ (h:=ax_ (h:=g_ (h:=y_ (l_ (h:=ax_ (h:=g_ (h:=y_ (x_ (h:=ax_ (h:=g_ (h:=y_ (f_ (h:=ax_ (h:=g_ (h:=y_ (l_ (h:=ax_ (h:=g_ (h:=y_ (bE (h:=ax_ (h:=?_))))))))))))))))))))))))))))
    )
  all_goals
   refine y_ (pk (h:=ax_ (h:=y_ (m_ (h:=ax_ (h:=?_))))))
   refine gw_ (h1:=?_) (h2:=?_)
   rotate_right 1
   focus
    intro c3
    first
    | exact dn c3
    | (
     have d3 := c3;try simp at d3
     refine gd_ (h:=gd_ (h:=gd_ (h:=gd_ (h:=?_))))
     )
   rotate_right 1
   focus
    intro c3
    first
    | exact dn c3
    | (
     have d3 := c3;try simp at d3
     refine g_ (h:=y_ (f_ (h:=ax_ (h:=g_ (h:=y_ (l_ (h:=ax_ (h:=g_ (h:=y_ (ca (hc:=e_in _ _ _) (h:=ax_ (h:=g_ (h:=y_ (u_ (h:=ax_ (h:=?_))))))))))))))))
     )
   all_goals
    refine y_ (pk (h:=ax_ (h:=wo_nil (ed (h:=?_)))))
  all_goals first
  | (
   refine aft_normal ?_
   refine c_ (h1:=?_) (h2:=?_)
   rotate_right 1
   focus
    intro c4
    first
    | exact dn c4
    | (
     have d4 := c4;try simp at d4
     have hok : outOk pl b = true := (by clear ih hs hk hx hbw hlen;simp [outOk,ndAt_of hd,inI,hwl] at *;grind);have g4 := ints_ix (w:=widN pl) (outOk_of hok).1 (by have := outOk_of hok;omega)
     refine wc_skip (?_)
     )
   rotate_right 1
   focus
    intro c4
    first
    | exact dn c4
    | (
     have d4 := c4;try simp at d4
     have hno : outOk pl b = false := (by clear ih hs hk hx hbw hlen;first | (simp [outOk,inI,hwl] at *;grind) | (simp [outOk,ndAt_of hd,inI,hwl] at *;grind))
     refine wa_ (wc_region (w_ (a_ (h:=wo_nil (e_ (h:=aft_normal (wc_ret (?_))))))))
     )
   )
  all_goals first
  | refine aft_ret ?_
  | (
   refine aft_normal ?_
   refine wa_ (wc_draw (y_ (f_ (h:=ax_ (h:=y_ (l_ (h:=ax_ (h:=y_ (m_ (h:=ax_ (h:=y_ (f_ (h:=ax_ (h:=y_ (l_ (h:=ax_ (h:=y_ (x_ (h:=ax_ (h:=y_ (l_ (h:=ax_ (h:=y_ (ca (hc:=e_widI b.set _ (w_Rl_in (by omega))) (h:=ax_ (h:=y_ (a_ (h:=ax_ (h:=wo_nil (ed (h:=aft_normal (wa_ (wc_region (w_ (m_ (h:=w_ (bE (h:=wo_nil (e_ (h:=aft_normal (?_)))))))))))))))))))))))))))))))))))))))))
   refine c_ (h1:=?_) (h2:=?_)
   rotate_right 1
   focus
    intro c5
    first
    | exact dn c5
    | (
     have d5 := c5;try simp at d5
     refine wc_skip (?_)
     )
   rotate_right 1
   focus
    intro c5
    first
    | exact dn c5
    | (
     have d5 := c5;try simp at d5
     refine wa_ (wc_region (w_ (m_ (h:=w_ (a_ (h:=wo_nil (e_ (h:=aft_normal (wc_ret (?_))))))))))
     )
   )
  all_goals first | refine blk_normal ?_ | refine blk_ret ?_
  all_goals first
  | refine aft_ret ?_
  | (
   refine aft_normal ?_
   refine wc_region (w_ (b_ (h:=w_ (m_ (h:=wo_nil (e_ (h:=?_)))))))
   )
  )
 all_goals first
 | (refine (ih (i + 1) (by omega) ?_ _ ?_).trans ?_;(focus (first | omega | (simp;done) | (simp;omega)));(focus (simp [normE,hw];done));(focus (rw [e1,outR_0 hok d5])))
 | (apply end_leaf (ex:=Ext.ret) 3 (some [6]);(focus (simp [normE];rfl));(focus (rw [e1,outR_1 hok d5];simp [d5])))
 | (apply end_leaf (ex:=Ext.ret) 3 (some [6]);(focus (simp [normE];rfl));(focus (rw [e1,outR_2 hno];simp)))
 | (apply end_leaf (ex:=(Ext.exit 4)) 3 (some [6]);(focus (simp [normE];rfl));(focus (rw [List.drop_eq_nil_of_le (by omega)];simp [outR])))
theorem e_wkI2 (pl : List Nd) (w : Wk) (hp : pl.length < 2000000) (hk : okN pl) (h0 : (lookN pl).2 = 0) (hx : w_Wk w < 2000000) : oc.call 51 [.lst false 0 (nds false 0 pl),.lst false 0 (ints (widN pl)),w.v false] = some (.int .i64 (wkC pl w),[]) := by
 refine fun_s rfl cd51 rfl rfl rfl (by simp;rfl) (by simp;rfl) ?_
 obtain ⟨hx1,hx2,hx3,hx4⟩ := w_Wk_in hx
 have hl1 := w_Frs_len (l:=w.inbox)
 have hl3 := w_Hds_len (l:=w.nodes)
 have hl4 := w_Rls_len (l:=w.outs)
 refine wa_ (wc_region (w_ (bx (h:=w_ (a_ (h:=wo_nil (e_ (h:=aft_normal (wa_ (wa_ (wc_region (w_ (f_ (h:=w_ (l_ (h:=w_ (le (h:=w_ (b_ (h:=w_ (m_ (h:=?_))))))))))))))))))))))
 refine gw_ (h1:=?_) (h2:=?_)
 rotate_right 1
 focus
  intro c1
  first
  | exact dn c1
  | (
   have d1 := c1;try simp at d1
   refine go_ (h:=go_ (h:=go_ (h:=go_ (h:=?_))))
   )
 rotate_right 1
 focus
  intro c1
  first
  | exact dn c1
  | (
   have d1 := c1;try simp at d1
   refine g_ (h:=w_ (f_ (h:=g_ (h:=w_ (l_ (h:=g_ (h:=w_ (le (h:=g_ (h:=w_ (b_ (h:=?_))))))))))))
   )
 all_goals
  refine w_ (pk (h:=wo_nil (e_ (h:=?_))))
 all_goals first
 | (
  refine aft_normal ?_
  refine c_ (h1:=?_) (h2:=?_)
  rotate_right 1
  focus
   intro c2
   first
   | exact dn c2
   | (
    have d2 := c2;try simp at d2
    refine wc_skip (?_)
    )
  rotate_right 1
  focus
   intro c2
   first
   | exact dn c2
   | (
    have d2 := c2;try simp at d2
    refine wa_ (wc_region (w_ (a_ (h:=wo_nil (e_ (h:=aft_normal (wc_ret (?_))))))))
    )
  )
 all_goals first
 | refine aft_ret ?_
 | (
  refine aft_normal ?_
  refine wa_ (wa_ (wc_region (w_ (f_ (h:=w_ (l_ (h:=w_ (le (h:=w_ (m_ (h:=wo_nil (e_ (h:=aft_normal (wc_block (?_)))))))))))))))
  refine wc_loopI (l_wk1 pl w hp hk h0 hx1 0 (by omega) _ (by simp [normE])) ?_ ?_
  rotate_right 1
  focus
   intro c3
   first
   | exact dn c3
   | (
    have d3 := c3;try simp at d3
    skip
    )
  rotate_right 1
  focus
   intro c3
   first
   | exact dn c3
   | (
    have d3 := c3;try simp at d3
    skip
    )
  all_goals first | refine blk_ret ?_ | refine blk_exit ?_
  all_goals first
  | refine aft_ret ?_
  | (
   refine aft_normal ?_
   refine wa_ (wa_ (wc_region (w_ (m_ (h:=w_ (f_ (h:=w_ (l_ (h:=w_ (ca (hc:=e_ctsF pl w.counts hp) (h:=w_ (a_ (h:=wo_nil (e_ (h:=aft_normal (wa_ (wc_region (w_ (m_ (h:=w_ (bE (h:=wo_nil (e_ (h:=aft_normal (?_)))))))))))))))))))))))))
   refine c_ (h1:=?_) (h2:=?_)
   rotate_right 1
   focus
    intro c4
    first
    | exact dn c4
    | (
     have d4 := c4;try simp at d4
     refine wc_skip (?_)
     )
   rotate_right 1
   focus
    intro c4
    first
    | exact dn c4
    | (
     have d4 := c4;try simp at d4
     refine wa_ (wc_region (w_ (m_ (h:=w_ (a_ (h:=wo_nil (e_ (h:=aft_normal (wc_ret (?_))))))))))
     )
   all_goals first
   | refine aft_ret ?_
   | (
    refine aft_normal ?_
    refine wa_ (wa_ (wc_region (w_ (f_ (h:=w_ (l_ (h:=w_ (le (h:=w_ (m_ (h:=w_ (le (h:=w_ (bE (h:=wo_nil (e_ (h:=aft_normal (?_))))))))))))))))))
    refine c_ (h1:=?_) (h2:=?_)
    rotate_right 1
    focus
     intro c5
     first
     | exact dn c5
     | (
      have d5 := c5;try simp at d5
      refine wc_skip (?_)
      )
    rotate_right 1
    focus
     intro c5
     first
     | exact dn c5
     | (
      have d5 := c5;try simp at d5
      refine wa_ (wc_region (w_ (a_ (h:=wo_nil (e_ (h:=aft_normal (wc_ret (?_))))))))
      )
    all_goals first
    | refine aft_ret ?_
    | (
     refine aft_normal ?_
     refine wa_ (wa_ (wc_region (w_ (f_ (h:=w_ (l_ (h:=w_ (le (h:=w_ (m_ (h:=wo_nil (e_ (h:=aft_normal (wc_block (?_)))))))))))))))
     refine wc_loopI (l_wk2 pl w hp hk h0 hx3 (by omega) 0 (by omega) _ (by simp [normE])) ?_ ?_
     rotate_right 1
     focus
      intro c6
      first
      | exact dn c6
      | (
       have d6 := c6;try simp at d6
       skip
       )
     rotate_right 1
     focus
      intro c6
      first
      | exact dn c6
      | (
       have d6 := c6;try simp at d6
       skip
       )
     all_goals first | refine blk_ret ?_ | refine blk_exit ?_
     all_goals first
     | refine aft_ret ?_
     | (
      refine aft_normal ?_
      refine wa_ (wa_ (wc_region (w_ (f_ (h:=w_ (l_ (h:=w_ (ca (hc:=e_in _ _ _) (h:=w_ (u_ (h:=w_ (m_ (h:=?_)))))))))))))
      refine gw_ (h1:=?_) (h2:=?_)
      rotate_right 1
      focus
       intro c7
       first
       | exact dn c7
       | (
        have d7 := c7;try simp at d7
        refine go_ (h:=go_ (h:=go_ (h:=go_ (h:=?_))))
        )
      rotate_right 1
      focus
       intro c7
       first
       | exact dn c7
       | (
        have d7 := c7;try simp at d7
        refine g_ (h:=w_ (f_ (h:=g_ (h:=w_ (l_ (h:=g_ (h:=w_ (bE (h:=g_ (h:=w_ (m_ (h:=?_))))))))))))
        )
      all_goals
       first
       | (
        skip
        refine goN (h:=goN (h:=goN (h:=goN (h:=goN (h:=?_)))))
        )
       | (
        refine gw_ (h1:=?_) (h2:=?_)
        rotate_right 1
        focus
         intro c8
         first
         | exact dn c8
         | (
          have d8 := c8;try simp at d8
          refine go_ (h:=go_ (h:=go_ (h:=go_ (h:=go_ (h:=?_)))))
          )
        rotate_right 1
        focus
         intro c8
         first
         | exact dn c8
         | (
          have d8 := c8;try simp at d8
          refine g_ (h:=w_ (f_ (h:=g_ (h:=w_ (l_ (h:=g_ (h:=w_ (f_ (h:=g_ (h:=w_ (l_ (h:=g_ (h:=w_ (bE (h:=?_)))))))))))))))
          )
        )
       all_goals
        first
        | (
         skip
         refine g_ (h:=w_ (pk (h:=?_)))
         )
        | (
         skip
         refine go_ (h:=?_)
         )
        all_goals
         refine w_ (pk (h:=wo_nil (e_ (h:=?_))))
      all_goals first
      | (
       refine aft_normal ?_
       refine c_ (h1:=?_) (h2:=?_)
       rotate_right 1
       focus
        intro c9
        first
        | exact dn c9
        | (
         have d9 := c9;try simp at d9
         refine wc_skip (?_)
         )
       rotate_right 1
       focus
        intro c9
        first
        | exact dn c9
        | (
         have d9 := c9;try simp at d9
         refine wa_ (wc_region (w_ (a_ (h:=wo_nil (e_ (h:=aft_normal (wc_ret (?_))))))))
         )
       )
      all_goals first
      | refine aft_ret ?_
      | (
       refine aft_normal ?_
       refine wa_ (wa_ (wc_region (w_ (f_ (h:=w_ (l_ (h:=w_ (le (h:=w_ (m_ (h:=wo_nil (e_ (h:=aft_normal (wc_block (?_)))))))))))))))
       refine wc_loopI (l_wk3 pl w hp hk h0 hx4 0 (by omega) _ (by simp [normE])) ?_ ?_
       rotate_right 1
       focus
        intro c10
        first
        | exact dn c10
        | (
         have d10 := c10;try simp at d10
         skip
         )
       rotate_right 1
       focus
        intro c10
        first
        | exact dn c10
        | (
         have d10 := c10;try simp at d10
         skip
         )
       all_goals first | refine blk_ret ?_ | refine blk_exit ?_
       all_goals first
       | refine aft_ret ?_
       | (
        refine aft_normal ?_
        refine wa_ (wc_region (w_ (a_ (h:=wo_nil (e_ (h:=aft_normal (wc_ret (?_))))))))
        )
       )
      )
     )
    )
   )
  )
 all_goals (refine fin_ (hr:=(res_tmp rfl res_nil)) (h:=?_);(focus (clear hk hx hx1 hx2 hx3 hx4;simp only [wkC];simp at * <;> grind)))
def wkN (pl : List Nd) (w : Wk) : Int := if (lookN pl).2 = 0 then wkC pl w else (lookN pl).2
theorem l_wkS1 (pl : List Nd) (w : Wk) (hp : pl.length < 2000000) (hk : okN pl) (h0 : (lookN pl).2 = 0) (hx : w_Frs w.inbox < 2000000) : ∀ i : Nat,(i ≤ w.inbox.length) → ∀ s,normE 2 (some [0,3,6]) s = ⟨[(0,.lst false 0 (nds false 0 pl)),(3,.ptr 2 0 []),(6,.int .i64 i)],[(2,⟨true,false,7,[w.v false],0⟩)],3⟩ →
 oc.loop 42 7 s = some (if inbR pl (w.inbox.drop i) = 0 then (.exit 0,⟨[(0,.lst false 0 (nds false 0 pl)),(3,.ptr 2 0 [])],[(2,⟨true,false,7,[w.v false],0⟩)],3⟩) else (.ret,⟨[(0,.lst false 0 (nds false 0 pl)),(3,.ptr 2 0 []),(4,.int .i64 (inbR pl (w.inbox.drop i)))],[(2,⟨true,false,7,[w.v false],0⟩)],3⟩)) := by
 refine loop_ind (σ:=Nat) (fun i => w.inbox.length - i) _ (fun i => ⟨[(0,.lst false 0 (nds false 0 pl)),(3,.ptr 2 0 []),(6,.int .i64 i)],[(2,⟨true,false,7,[w.v false],0⟩)],3⟩) _ ?_
 intro i hi ih s hs
 refine loop_s cd42 rfl rfl hs ?_
 have hlen := w_Frs_len (l:=w.inbox)
 refine wa_ (wa_ (wc_region (w_ (m_ (h:=w_ (f_ (h:=w_ (l_ (h:=w_ (le (h:=w_ (b_ (h:=wo_nil (e_ (h:=aft_normal (?_))))))))))))))))
 refine c_ (h1:=?_) (h2:=?_)
 rotate_right 1
 focus
  intro c1
  first
  | exact dn c1
  | (
   have d1 := c1;try simp at d1
   refine wc_exit (?_)
   )
 rotate_right 1
 focus
  intro c1
  first
  | exact dn c1
  | (
   have d1 := c1;try simp at d1
   have hw := wrap_succ (i:=i) (by omega);obtain ⟨b,hb,e1,g1⟩ := frs_cut (t:=false) (l:=w.inbox) (i:=i) (by omega);have hbw := w_Frs_mem (List.mem_of_getElem? hb);have hfr : frN0 pl b = frC pl b := (by unfold frN0;rw [if_pos h0])
   refine wc_skip (?_)
   )
 all_goals first
 | refine aft_exit ?_
 | (
  refine aft_normal ?_
  refine wa_ (wc_block (wa_ (wa_ (wc_region (w_ (m_ (h:=w_ (f_ (h:=w_ (l_ (h:=w_ (m_ (h:=w_ (x_ (h:=w_ (l_ (h:=w_ (ca (hc:=hfr ▸ e_frameS pl b hp hk (by omega)) (h:=w_ (a_ (h:=wo_nil (e_ (h:=aft_normal (wa_ (wc_region (w_ (m_ (h:=w_ (bE (h:=wo_nil (e_ (h:=aft_normal (?_)))))))))))))))))))))))))))))))))
  refine c_ (h1:=?_) (h2:=?_)
  rotate_right 1
  focus
   intro c2
   first
   | exact dn c2
   | (
    have d2 := c2;try simp at d2
    refine wc_skip (?_)
    )
  rotate_right 1
  focus
   intro c2
   first
   | exact dn c2
   | (
    have d2 := c2;try simp at d2
    refine wa_ (wc_region (w_ (m_ (h:=w_ (a_ (h:=wo_nil (e_ (h:=aft_normal (wc_ret (?_))))))))))
    )
  all_goals first
  | refine aft_ret ?_
  | (
   refine aft_normal ?_
   refine wa_ (wc_region (w_ (f_ (h:=w_ (l_ (h:=w_ (m_ (h:=w_ (x_ (h:=w_ (f_ (h:=w_ (l_ (h:=w_ (bE (h:=wo_nil (e_ (h:=aft_normal (?_)))))))))))))))))))
   refine c_ (h1:=?_) (h2:=?_)
   rotate_right 1
   focus
    intro c3
    first
    | exact dn c3
    | (
     have d3 := c3;try simp at d3
     refine wc_skip (?_)
     )
   rotate_right 1
   focus
    intro c3
    first
    | exact dn c3
    | (
     have d3 := c3;try simp at d3
     refine wa_ (wc_region (w_ (a_ (h:=wo_nil (e_ (h:=aft_normal (wc_ret (?_))))))))
     )
   )
  all_goals first | refine blk_normal ?_ | refine blk_ret ?_
  all_goals first
  | refine aft_ret ?_
  | (
   refine aft_normal ?_
   refine wc_region (w_ (m_ (h:=w_ (b_ (h:=w_ (a_ (h:=wo_nil (e_ (h:=?_)))))))))
   )
  )
 all_goals first
 | (refine (ih (i + 1) (by omega) ?_ _ ?_).trans ?_;(focus (first | omega | (simp;done) | (simp;omega)));(focus (simp [normE,hw];done));(focus (rw [e1,inbR_0 d2 d3])))
 | (apply end_leaf (ex:=Ext.ret) 2 (some [0,3,4]);(focus (simp [normE];rfl));(focus (rw [e1,inbR_2 d2];simp [d2])))
 | (apply end_leaf (ex:=Ext.ret) 2 (some [0,3,4]);(focus (simp [normE];rfl));(focus (rw [e1,inbR_1 d2 d3];simp)))
 | (apply end_leaf (ex:=(Ext.exit 0)) 2 (some [0,3,4]);(focus (simp [normE];rfl));(focus (rw [List.drop_eq_nil_of_le (by omega)];simp [inbR])))
theorem l_wkS2 (pl : List Nd) (w : Wk) (hp : pl.length < 2000000) (hk : okN pl) (h0 : (lookN pl).2 = 0) (hx : w_Hds w.nodes < 2000000) (hl : w.nodes.length = pl.length) : ∀ i : Nat,(i ≤ w.nodes.length) → ∀ s,normE 2 (some [0,3,9]) s = ⟨[(0,.lst false 0 (nds false 0 pl)),(3,.ptr 2 0 []),(9,.int .i64 i)],[(2,⟨true,false,7,[w.v false],0⟩)],3⟩ →
 oc.loop 42 20 s = some (if hdsR pl i (w.nodes.drop i) = 0 then (.exit 2,⟨[(0,.lst false 0 (nds false 0 pl)),(3,.ptr 2 0 [])],[(2,⟨true,false,7,[w.v false],0⟩)],3⟩) else (.ret,⟨[(0,.lst false 0 (nds false 0 pl)),(3,.ptr 2 0 []),(4,.int .i64 (hdsR pl i (w.nodes.drop i)))],[(2,⟨true,false,7,[w.v false],0⟩)],3⟩)) := by
 refine loop_ind (σ:=Nat) (fun i => w.nodes.length - i) _ (fun i => ⟨[(0,.lst false 0 (nds false 0 pl)),(3,.ptr 2 0 []),(9,.int .i64 i)],[(2,⟨true,false,7,[w.v false],0⟩)],3⟩) _ ?_
 intro i hi ih s hs
 refine loop_s cd42 rfl rfl hs ?_
 have hlen := w_Hds_len (l:=w.nodes)
 refine wa_ (wa_ (wc_region (w_ (m_ (h:=w_ (m_ (h:=w_ (le (h:=w_ (b_ (h:=wo_nil (e_ (h:=aft_normal (?_))))))))))))))
 refine c_ (h1:=?_) (h2:=?_)
 rotate_right 1
 focus
  intro c1
  first
  | exact dn c1
  | (
   have d1 := c1;try simp at d1
   refine wc_exit (?_)
   )
 rotate_right 1
 focus
  intro c1
  first
  | exact dn c1
  | (
   have d1 := c1;try simp at d1
   have hw := wrap_succ (i:=i) (by omega);obtain ⟨b,hb,e1,g1⟩ := hds_cut (t:=false) (l:=w.nodes) (i:=i) (by omega);have hbw := w_Hds_mem (List.mem_of_getElem? hb);have hnc : nodeC pl i = 0 := (by unfold nodeC;rw [if_pos h0,if_pos (by simp [inI];omega)]);have hhd : heldN pl i b = heldC pl i b := (by unfold heldN;rw [if_pos hnc])
   refine wc_skip (?_)
   )
 all_goals first
 | refine aft_exit ?_
 | (
  refine aft_normal ?_
  refine wa_ (wc_block (wa_ (wc_region (w_ (m_ (h:=w_ (m_ (h:=w_ (f_ (h:=w_ (l_ (h:=w_ (m_ (h:=w_ (x_ (h:=w_ (l_ (h:=w_ (ca (hc:=hhd ▸ e_heldS pl i b hp hk (by omega)) (h:=w_ (a_ (h:=wo_nil (e_ (h:=aft_normal (wa_ (wc_region (w_ (m_ (h:=w_ (bE (h:=wo_nil (e_ (h:=aft_normal (?_))))))))))))))))))))))))))))))))))
  refine c_ (h1:=?_) (h2:=?_)
  rotate_right 1
  focus
   intro c2
   first
   | exact dn c2
   | (
    have d2 := c2;try simp at d2
    refine wc_skip (?_)
    )
  rotate_right 1
  focus
   intro c2
   first
   | exact dn c2
   | (
    have d2 := c2;try simp at d2
    refine wa_ (wc_region (w_ (m_ (h:=w_ (a_ (h:=wo_nil (e_ (h:=aft_normal (wc_ret (?_))))))))))
    )
  all_goals first | refine blk_normal ?_ | refine blk_ret ?_
  all_goals first
  | refine aft_ret ?_
  | (
   refine aft_normal ?_
   refine wc_region (w_ (m_ (h:=w_ (b_ (h:=w_ (a_ (h:=wo_nil (e_ (h:=?_)))))))))
   )
  )
 all_goals first
 | (refine (ih (i + 1) (by omega) ?_ _ ?_).trans ?_;(focus (first | omega | (simp;done) | (simp;omega)));(focus (simp [normE,hw];done));(focus (rw [e1,hdsR_0 d2])))
 | (apply end_leaf (ex:=Ext.ret) 2 (some [0,3,4]);(focus (simp [normE];rfl));(focus (rw [e1,hdsR_1 d2];simp [d2])))
 | (apply end_leaf (ex:=(Ext.exit 2)) 2 (some [0,3,4]);(focus (simp [normE];rfl));(focus (rw [List.drop_eq_nil_of_le (by omega)];simp [hdsR])))
theorem l_wkS3 (pl : List Nd) (w : Wk) (hp : pl.length < 2000000) (hk : okN pl) (h0 : (lookN pl).2 = 0) (hx : w_Rls w.outs < 2000000) : ∀ i : Nat,(i ≤ w.outs.length) → ∀ s,normE 2 (some [0,3,5]) s = ⟨[(0,.lst false 0 (nds false 0 pl)),(3,.ptr 2 0 []),(5,.int .i64 i)],[(2,⟨true,false,7,[w.v false],0⟩)],3⟩ →
 oc.loop 71 2 s = some (if outR pl (w.outs.drop i) = 0 then (.exit 0,⟨[],[],2⟩) else (.ret,⟨[(4,.int .i64 (outR pl (w.outs.drop i)))],[],2⟩)) := by
 refine loop_ind (σ:=Nat) (fun i => w.outs.length - i) _ (fun i => ⟨[(0,.lst false 0 (nds false 0 pl)),(3,.ptr 2 0 []),(5,.int .i64 i)],[(2,⟨true,false,7,[w.v false],0⟩)],3⟩) _ ?_
 intro i hi ih s hs
 refine loop_s cd71 rfl rfl hs ?_
 have hlen := w_Rls_len (l:=w.outs)
 have hwl : IntKind.i64.wrap ((pl.length : Int) - 1) = pl.length - 1 := wrap_id (by omega) (by omega)
 have hll := (look_good hk h0).2.1
 refine wa_ (wa_ (wc_region (w_ (m_ (h:=w_ (f_ (h:=w_ (l_ (h:=w_ (le (h:=w_ (b_ (h:=wo_nil (e_ (h:=aft_normal (?_))))))))))))))))
 refine c_ (h1:=?_) (h2:=?_)
 rotate_right 1
 focus
  intro c1
  first
  | exact dn c1
  | (
   have d1 := c1;try simp at d1
   refine wc_exit (?_)
   )
 rotate_right 1
 focus
  intro c1
  first
  | exact dn c1
  | (
   have d1 := c1;try simp at d1
   have hw := wrap_succ (i:=i) (by omega);obtain ⟨b,hb,e1,g1⟩ := rls_cut (t:=false) (l:=w.outs) (i:=i) (by omega);have hbw := w_Rls_mem (List.mem_of_getElem? hb)
   refine wc_skip (?_)
   )
 all_goals first
 | refine aft_exit ?_
 | (
  refine aft_normal ?_
  refine wa_ (wc_block (wa_ (wc_region (w_ (f_ (h:=w_ (l_ (h:=w_ (m_ (h:=w_ (x_ (h:=w_ (l_ (h:=w_ (al (h:=w0 (s_ (h:=wo_nil (e_ (h:=aft_normal (wa_ (wa_ (wc_region (w_ (f_ (h:=w_ (l_ (h:=w_ (m_ (h:=w_ (le (h:=w_ (b_ (h:=w_ (ca (hc:=e_l1In _ _ _) (h:=w_ (u_ (h:=w_ (m_ (h:=?_))))))))))))))))))))))))))))))))))))))))
  refine gw_ (h1:=?_) (h2:=?_)
  rotate_right 1
  focus
   intro c2
   first
   | exact dn c2
   | (
    have d2 := c2;try simp at d2
    refine go_ (h:=go_ (h:=go_ (h:=go_ (h:=go_ (h:=go_ (h:=go_ (h:=?_)))))))
    )
  rotate_right 1
  focus
   intro c2
   first
   | exact dn c2
   | (
    have d2 := c2;try simp at d2
    have hin : 0 ≤ b.node ∧ b.node < pl.length := (by simp [inI,hwl] at d2;omega);obtain ⟨d,hd,g3⟩ := nd_at hin.1 hin.2
    refine g_ (h:=w_ (m_ (h:=g_ (h:=w_ (f_ (h:=g_ (h:=w_ (l_ (h:=g_ (h:=w_ (x_ (h:=g_ (h:=w_ (f_ (h:=g_ (h:=w_ (l_ (h:=g_ (h:=w_ (bE (h:=?_)))))))))))))))))))))
    )
  all_goals
   refine w_ (pk (h:=w_ (m_ (h:=?_))))
   refine gw_ (h1:=?_) (h2:=?_)
   rotate_right 1
   focus
    intro c3
    first
    | exact dn c3
    | (
     have d3 := c3;try simp at d3
     refine go_ (h:=go_ (h:=go_ (h:=go_ (h:=?_))))
     )
   rotate_right 1
   focus
    intro c3
    first
    | exact dn c3
    | (
     have d3 := c3;try simp at d3
     refine g_ (h:=w_ (f_ (h:=g_ (h:=w_ (l_ (h:=g_ (h:=w_ (ca (hc:=e_l1In _ _ _) (h:=g_ (h:=w_ (u_ (h:=?_))))))))))))
     )
   all_goals
    refine w_ (pk (h:=wo_nil (e_ (h:=?_))))
  all_goals first
  | (
   refine aft_normal ?_
   refine c_ (h1:=?_) (h2:=?_)
   rotate_right 1
   focus
    intro c4
    first
    | exact dn c4
    | (
     have d4 := c4;try simp at d4
     have hok : outOk pl b = true := (by clear ih hs hk hx hbw hlen;simp [outOk,ndAt_of hd,inI,hwl] at *;grind)
     refine wc_skip (?_)
     )
   rotate_right 1
   focus
    intro c4
    first
    | exact dn c4
    | (
     have d4 := c4;try simp at d4
     have hno : outOk pl b = false := (by clear ih hs hk hx hbw hlen;first | (simp [outOk,inI,hwl] at *;grind) | (simp [outOk,ndAt_of hd,inI,hwl] at *;grind))
     refine wa_ (wc_region (w_ (a_ (h:=wo_nil (e_ (h:=aft_normal (wc_ret (?_))))))))
     )
   )
  all_goals first
  | refine aft_ret ?_
  | (
   refine aft_normal ?_
   refine wa_ (wc_draw (y_ (f_ (h:=ax_ (h:=y_ (l_ (h:=ax_ (h:=y_ (m_ (h:=ax_ (h:=y_ (f_ (h:=ax_ (h:=y_ (l_ (h:=ax_ (h:=y_ (ca (hc:=e_l3WidthI pl (widN pl) hp (look_good hk h0).1 b.node (outOk_of hok).1 (by have := outOk_of hok;omega)) (h:=ax_ (h:=y_ (ca (hc:=e_widS b.set _ (w_Rl_in (by omega))) (h:=ax_ (h:=y_ (a_ (h:=ax_ (h:=wo_nil (ed (h:=aft_normal (wa_ (wc_region (w_ (m_ (h:=w_ (bE (h:=wo_nil (e_ (h:=aft_normal (?_))))))))))))))))))))))))))))))))))))))
   refine c_ (h1:=?_) (h2:=?_)
   rotate_right 1
   focus
    intro c5
    first
    | exact dn c5
    | (
     have d5 := c5;try simp at d5
     refine wc_skip (?_)
     )
   rotate_right 1
   focus
    intro c5
    first
    | exact dn c5
    | (
     have d5 := c5;try simp at d5
     refine wa_ (wc_region (w_ (m_ (h:=w_ (a_ (h:=wo_nil (e_ (h:=aft_normal (wc_ret (?_))))))))))
     )
   )
  all_goals first | refine blk_normal ?_ | refine blk_ret ?_
  all_goals first
  | refine aft_ret ?_
  | (
   refine aft_normal ?_
   refine wc_region (w_ (m_ (h:=w_ (b_ (h:=w_ (a_ (h:=wo_nil (e_ (h:=?_)))))))))
   )
  )
 all_goals first
 | (refine (ih (i + 1) (by omega) ?_ _ ?_).trans ?_;(focus (first | omega | (simp;done) | (simp;omega)));(focus (simp [normE,hw];done));(focus (rw [e1,outR_0 hok d5])))
 | (apply end_leaf (ex:=Ext.ret) 2 (some [4]);(focus (simp [normE];rfl));(focus (rw [e1,outR_1 hok d5];simp [d5])))
 | (apply end_leaf (ex:=Ext.ret) 2 (some [4]);(focus (simp [normE];rfl));(focus (rw [e1,outR_2 hno];simp)))
 | (apply end_leaf (ex:=(Ext.exit 0)) 2 (some [4]);(focus (simp [normE];rfl));(focus (rw [List.drop_eq_nil_of_le (by omega)];simp [outR])))
theorem e_outs (pl : List Nd) (w : Wk) (hp : pl.length < 2000000) (hk : okN pl) (h0 : (lookN pl).2 = 0) (hx : w_Rls w.outs < 2000000) : oc.call 71 [.lst false 0 (nds false 0 pl),w.v false] = some (.int .i64 (outR pl w.outs),[]) := by
 refine fun_s rfl cd71 rfl rfl rfl (by simp;rfl) (by simp;rfl) ?_
 refine wa_ (wc_region (w_ (bx (h:=w_ (a_ (h:=wo_nil (e_ (h:=aft_normal (wa_ (wa_ (wc_region (w_ (a_ (h:=wo_nil (e_ (h:=aft_normal (wc_block (?_))))))))))))))))))
 refine wc_loopI (l_wkS3 pl w hp hk h0 hx 0 (by omega) _ (by simp [normE])) ?_ ?_
 rotate_right 1
 focus
  intro c1
  first
  | exact dn c1
  | (
   have d1 := c1;try simp at d1
   skip
   )
 rotate_right 1
 focus
  intro c1
  first
  | exact dn c1
  | (
   have d1 := c1;try simp at d1
   skip
   )
 all_goals first | refine blk_ret ?_ | refine blk_exit ?_
 all_goals first
 | refine aft_ret ?_
 | (
  refine aft_normal ?_
  refine wa_ (wc_region (w_ (a_ (h:=wo_nil (e_ (h:=aft_normal (wc_ret (?_))))))))
  )
 all_goals (refine fin_ (hr:=(res_tmp rfl res_nil)) (h:=?_);(focus (simp_all)))
theorem e_workS (pl : List Nd) (w : Wk) (hp : pl.length < 2000000) (hk : okN pl) (hx : w_Wk w < 2000000) : oc.call 42 [.lst false 0 (nds false 0 pl),w.v false] = some (.int .i64 (wkN pl w),[]) := by
 refine fun_s rfl cd42 rfl rfl rfl (by simp;rfl) (by simp;rfl) ?_
 obtain ⟨hx1,hx2,hx3,hx4⟩ := w_Wk_in hx
 have hl1 := w_Frs_len (l:=w.inbox)
 have hl3 := w_Hds_len (l:=w.nodes)
 have hl4 := w_Rls_len (l:=w.outs)
 refine wa_ (wc_region (w_ (bx (h:=w_ (a_ (h:=wo_nil (e_ (h:=aft_normal (wa_ (wa_ (wc_region (w_ (m_ (h:=w_ (ca (hc:=e_planS pl hp hk) (h:=w_ (a_ (h:=wo_nil (e_ (h:=aft_normal (wa_ (wc_region (w_ (m_ (h:=w_ (bE (h:=wo_nil (e_ (h:=aft_normal (?_))))))))))))))))))))))))))))))
 refine c_ (h1:=?_) (h2:=?_)
 rotate_right 1
 focus
  intro c1
  first
  | exact dn c1
  | (
   have d1 := c1;try simp at d1
   have hcn : ctsN pl w.counts = ctsF pl w.counts := (by unfold ctsN;rw [if_pos d1])
   refine wc_skip (?_)
   )
 rotate_right 1
 focus
  intro c1
  first
  | exact dn c1
  | (
   have d1 := c1;try simp at d1
   refine wa_ (wc_region (w_ (m_ (h:=w_ (a_ (h:=wo_nil (e_ (h:=aft_normal (wc_ret (?_))))))))))
   )
 all_goals first
 | refine aft_ret ?_
 | (
  refine aft_normal ?_
  refine wa_ (wa_ (wc_region (w_ (f_ (h:=w_ (l_ (h:=w_ (le (h:=w_ (b_ (h:=w_ (m_ (h:=?_)))))))))))))
  refine gw_ (h1:=?_) (h2:=?_)
  rotate_right 1
  focus
   intro c2
   first
   | exact dn c2
   | (
    have d2 := c2;try simp at d2
    refine go_ (h:=go_ (h:=go_ (h:=go_ (h:=?_))))
    )
  rotate_right 1
  focus
   intro c2
   first
   | exact dn c2
   | (
    have d2 := c2;try simp at d2
    refine g_ (h:=w_ (f_ (h:=g_ (h:=w_ (l_ (h:=g_ (h:=w_ (le (h:=g_ (h:=w_ (b_ (h:=?_))))))))))))
    )
  all_goals
   refine w_ (pk (h:=wo_nil (e_ (h:=?_))))
  all_goals first
  | (
   refine aft_normal ?_
   refine c_ (h1:=?_) (h2:=?_)
   rotate_right 1
   focus
    intro c3
    first
    | exact dn c3
    | (
     have d3 := c3;try simp at d3
     refine wc_skip (?_)
     )
   rotate_right 1
   focus
    intro c3
    first
    | exact dn c3
    | (
     have d3 := c3;try simp at d3
     refine wa_ (wc_region (w_ (a_ (h:=wo_nil (e_ (h:=aft_normal (wc_ret (?_))))))))
     )
   )
  all_goals first
  | refine aft_ret ?_
  | (
   refine aft_normal ?_
   refine wa_ (wa_ (wc_region (w_ (a_ (h:=wo_nil (e_ (h:=aft_normal (wc_block (?_)))))))))
   refine wc_loopI (l_wkS1 pl w hp hk d1 hx1 0 (by omega) _ (by simp [normE])) ?_ ?_
   rotate_right 1
   focus
    intro c4
    first
    | exact dn c4
    | (
     have d4 := c4;try simp at d4
     skip
     )
   rotate_right 1
   focus
    intro c4
    first
    | exact dn c4
    | (
     have d4 := c4;try simp at d4
     skip
     )
   all_goals first | refine blk_ret ?_ | refine blk_exit ?_
   all_goals first
   | refine aft_ret ?_
   | (
    refine aft_normal ?_
    refine wa_ (wa_ (wc_region (w_ (m_ (h:=w_ (f_ (h:=w_ (l_ (h:=w_ (ca (hc:=hcn ▸ e_ctsFS pl w.counts hp hk) (h:=w_ (a_ (h:=wo_nil (e_ (h:=aft_normal (wa_ (wc_region (w_ (m_ (h:=w_ (bE (h:=wo_nil (e_ (h:=aft_normal (?_)))))))))))))))))))))))))
    refine c_ (h1:=?_) (h2:=?_)
    rotate_right 1
    focus
     intro c5
     first
     | exact dn c5
     | (
      have d5 := c5;try simp at d5
      refine wc_skip (?_)
      )
    rotate_right 1
    focus
     intro c5
     first
     | exact dn c5
     | (
      have d5 := c5;try simp at d5
      refine wa_ (wc_region (w_ (m_ (h:=w_ (a_ (h:=wo_nil (e_ (h:=aft_normal (wc_ret (?_))))))))))
      )
    all_goals first
    | refine aft_ret ?_
    | (
     refine aft_normal ?_
     refine wa_ (wa_ (wc_region (w_ (f_ (h:=w_ (l_ (h:=w_ (le (h:=w_ (m_ (h:=w_ (le (h:=w_ (bE (h:=wo_nil (e_ (h:=aft_normal (?_))))))))))))))))))
     refine c_ (h1:=?_) (h2:=?_)
     rotate_right 1
     focus
      intro c6
      first
      | exact dn c6
      | (
       have d6 := c6;try simp at d6
       refine wc_skip (?_)
       )
     rotate_right 1
     focus
      intro c6
      first
      | exact dn c6
      | (
       have d6 := c6;try simp at d6
       refine wa_ (wc_region (w_ (a_ (h:=wo_nil (e_ (h:=aft_normal (wc_ret (?_))))))))
       )
     all_goals first
     | refine aft_ret ?_
     | (
      refine aft_normal ?_
      refine wa_ (wa_ (wc_region (w_ (a_ (h:=wo_nil (e_ (h:=aft_normal (wc_block (?_)))))))))
      refine wc_loopI (l_wkS2 pl w hp hk d1 hx3 (by omega) 0 (by omega) _ (by simp [normE])) ?_ ?_
      rotate_right 1
      focus
       intro c7
       first
       | exact dn c7
       | (
        have d7 := c7;try simp at d7
        skip
        )
      rotate_right 1
      focus
       intro c7
       first
       | exact dn c7
       | (
        have d7 := c7;try simp at d7
        skip
        )
      all_goals first | refine blk_ret ?_ | refine blk_exit ?_
      all_goals first
      | refine aft_ret ?_
      | (
       refine aft_normal ?_
       refine wa_ (wa_ (wc_region (w_ (f_ (h:=w_ (l_ (h:=w_ (ca (hc:=e_l1In _ _ _) (h:=w_ (u_ (h:=w_ (m_ (h:=?_)))))))))))))
       refine gw_ (h1:=?_) (h2:=?_)
       rotate_right 1
       focus
        intro c8
        first
        | exact dn c8
        | (
         have d8 := c8;try simp at d8
         refine go_ (h:=go_ (h:=go_ (h:=go_ (h:=?_))))
         )
       rotate_right 1
       focus
        intro c8
        first
        | exact dn c8
        | (
         have d8 := c8;try simp at d8
         refine g_ (h:=w_ (f_ (h:=g_ (h:=w_ (l_ (h:=g_ (h:=w_ (bE (h:=g_ (h:=w_ (m_ (h:=?_))))))))))))
         )
       all_goals
        first
        | (
         skip
         refine goN (h:=goN (h:=goN (h:=goN (h:=goN (h:=?_)))))
         )
        | (
         refine gw_ (h1:=?_) (h2:=?_)
         rotate_right 1
         focus
          intro c9
          first
          | exact dn c9
          | (
           have d9 := c9;try simp at d9
           refine go_ (h:=go_ (h:=go_ (h:=go_ (h:=go_ (h:=?_)))))
           )
         rotate_right 1
         focus
          intro c9
          first
          | exact dn c9
          | (
           have d9 := c9;try simp at d9
           refine g_ (h:=w_ (f_ (h:=g_ (h:=w_ (l_ (h:=g_ (h:=w_ (f_ (h:=g_ (h:=w_ (l_ (h:=g_ (h:=w_ (bE (h:=?_)))))))))))))))
           )
         )
        all_goals
         first
         | (
          skip
          refine g_ (h:=w_ (pk (h:=?_)))
          )
         | (
          skip
          refine go_ (h:=?_)
          )
         all_goals
          refine w_ (pk (h:=wo_nil (e_ (h:=?_))))
       all_goals first
       | (
        refine aft_normal ?_
        refine c_ (h1:=?_) (h2:=?_)
        rotate_right 1
        focus
         intro c10
         first
         | exact dn c10
         | (
          have d10 := c10;try simp at d10
          refine wc_skip (?_)
          )
        rotate_right 1
        focus
         intro c10
         first
         | exact dn c10
         | (
          have d10 := c10;try simp at d10
          refine wa_ (wc_region (w_ (a_ (h:=wo_nil (e_ (h:=aft_normal (wc_ret (?_))))))))
          )
        )
       all_goals first
       | refine aft_ret ?_
       | (
        refine aft_normal ?_
        refine wa_ (wc_region (w_ (m_ (h:=w_ (l_ (h:=w_ (ca (hc:=e_outs pl w hp hk d1 hx4) (h:=w_ (a_ (h:=wo_nil (e_ (h:=aft_normal (wc_ret (?_))))))))))))))
        )
       )
      )
     )
    )
   )
  )
 all_goals (refine fin_ (hr:=(res_tmp rfl res_nil)) (h:=?_);(focus (clear hk hx hx1 hx2 hx3 hx4;simp only [wkN,wkC];simp at * <;> grind)))
def etss (t : Bool) (l : List (List Et)) : List V := l.map fun x => .lst t (lz t 2) (ets t x)
@[simp] theorem etss_len (t : Bool) (l : List (List Et)) : (etss t l).length = l.length := by simp [etss]
@[simp] theorem etss_nil (t : Bool) : etss t [] = [] := rfl
@[simp] theorem etss_cons (t : Bool) (x : List Et) (l : List (List Et)) : etss t (x :: l) = .lst t (lz t 2) (ets t x) :: etss t l := rfl
@[simp] theorem etss_join (t : Bool) (l m : List (List Et)) : etss t l ++ etss t m = etss t (l ++ m) := by simp [etss]
@[simp] theorem etss_snocT (l : List (List Et)) (x : List Et) : etss true l ++ [.lst true 2 (ets true x)] = etss true (l ++ [x]) := by simp [etss]
@[simp] theorem etss_snocF (l : List (List Et)) (x : List Et) : etss false l ++ [.lst false 0 (ets false x)] = etss false (l ++ [x]) := by simp [etss]
@[simp] theorem etss_setT (l : List (List Et)) (i : Nat) (x : List Et) : (etss true l).set i (.lst true 2 (ets true x)) = etss true (l.set i x) := by simp [etss,List.map_set]
@[simp] theorem etss_setF (l : List (List Et)) (i : Nat) (x : List Et) : (etss false l).set i (.lst false 0 (ets false x)) = etss false (l.set i x) := by simp [etss,List.map_set]
@[simp] theorem etss_take (t : Bool) (n : Nat) (l : List (List Et)) : (etss t l).take n = etss t (l.take n) := by simp [etss,List.map_take]
@[simp] theorem etss_drop (t : Bool) (n : Nat) (l : List (List Et)) : (etss t l).drop n = etss t (l.drop n) := by simp [etss,List.map_drop]
@[simp] theorem etss_shareL (t : Bool) (l : List (List Et)) : V.shareL (etss t l) = etss false l := by
  induction l with
  | nil => rfl
  | cons x l ih => simp [V.shareL,ih,lst_share]
@[simp] theorem etss_tidyT (l : List (List Et)) : V.tidyL (etss true l) = true := by
  induction l with
  | nil => rfl
  | cons x l ih => simp [V.tidyL,V.tidy,ih]
theorem alikeL_lss {α β : Type} {f : α → V} {g : β → V} (hf : ∀ x y,(f x).alike (g y) = true) : ∀ {a : List α} {b : List β},V.alikeL (a.map f) (b.map g) = decide (a.length = b.length)
  | [],[] => rfl
  | [],_ :: _ => by simp [V.alikeL]
  | _ :: _,[] => by simp [V.alikeL]
  | x :: a,y :: b => by simp only [List.map_cons,V.alikeL,hf,Bool.true_and,alikeL_lss hf (a:=a) (b:=b),List.length_cons,Nat.add_right_cancel_iff]
@[simp] theorem alike_etss (t u : Bool) (a b : List (List Et)) : V.alikeL (etss t a) (etss u b) = decide (a.length = b.length) := alikeL_lss (fun _ _ => rfl)
def frss (t : Bool) (l : List (List Fr)) : List V := l.map fun x => .lst t (lz t 6) (frs t x)
@[simp] theorem frss_len (t : Bool) (l : List (List Fr)) : (frss t l).length = l.length := by simp [frss]
@[simp] theorem frss_nil (t : Bool) : frss t [] = [] := rfl
@[simp] theorem frss_cons (t : Bool) (x : List Fr) (l : List (List Fr)) : frss t (x :: l) = .lst t (lz t 6) (frs t x) :: frss t l := rfl
@[simp] theorem frss_join (t : Bool) (l m : List (List Fr)) : frss t l ++ frss t m = frss t (l ++ m) := by simp [frss]
@[simp] theorem frss_snocT (l : List (List Fr)) (x : List Fr) : frss true l ++ [.lst true 6 (frs true x)] = frss true (l ++ [x]) := by simp [frss]
@[simp] theorem frss_snocF (l : List (List Fr)) (x : List Fr) : frss false l ++ [.lst false 0 (frs false x)] = frss false (l ++ [x]) := by simp [frss]
@[simp] theorem frss_setT (l : List (List Fr)) (i : Nat) (x : List Fr) : (frss true l).set i (.lst true 6 (frs true x)) = frss true (l.set i x) := by simp [frss,List.map_set]
@[simp] theorem frss_setF (l : List (List Fr)) (i : Nat) (x : List Fr) : (frss false l).set i (.lst false 0 (frs false x)) = frss false (l.set i x) := by simp [frss,List.map_set]
theorem frss_zero (m : Nat) : List.replicate m (V.lst true 6 []) = frss true (List.replicate m []) := by simp [frss]
theorem frss_get {t : Bool} {l : List (List Fr)} {i : Nat} {x : List Fr} (h : l[i]? = some x) : (frss t l)[i]? = some (.lst t (lz t 6) (frs t x)) := by simp [frss,h]
theorem frss_at {t : Bool} {l : List (List Fr)} {i : Nat} (h : i < l.length) : (frss t l)[(i : Int).toNat]? = some (.lst t (lz t 6) (frs t l[i])) := frss_get (by simp [h])
theorem frss_cut {t : Bool} {l : List (List Fr)} {i : Nat} (h : i < l.length) : ∃ x,l[i]? = some x ∧ l.drop i = x :: l.drop (i + 1) ∧ (frss t l)[(i : Int).toNat]? = some (.lst t (lz t 6) (frs t x)) :=
  ⟨l[i],by simp [h],List.drop_eq_getElem_cons h,frss_at h⟩
@[simp] theorem frss_take (t : Bool) (n : Nat) (l : List (List Fr)) : (frss t l).take n = frss t (l.take n) := by simp [frss,List.map_take]
@[simp] theorem frss_drop (t : Bool) (n : Nat) (l : List (List Fr)) : (frss t l).drop n = frss t (l.drop n) := by simp [frss,List.map_drop]
@[simp] theorem frss_shareL (t : Bool) (l : List (List Fr)) : V.shareL (frss t l) = frss false l := by
  induction l with
  | nil => rfl
  | cons x l ih => simp [V.shareL,ih,lst_share]
@[simp] theorem frss_tidyT (l : List (List Fr)) : V.tidyL (frss true l) = true := by
  induction l with
  | nil => rfl
  | cons x l ih => simp [V.tidyL,V.tidy,ih]
@[simp] theorem alike_frss (t u : Bool) (a b : List (List Fr)) : V.alikeL (frss t a) (frss u b) = decide (a.length = b.length) := alikeL_lss (fun _ _ => rfl)
end Go.Proofs.YtadaeiahfidodaaGreat.Ev
namespace Go.Proofs.YtadaeiahfidodaaGreat.Ev
open Go
set_option maxRecDepth 100000
set_option linter.unusedSimpArgs false
set_option linter.unusedVariables false
set_option maxHeartbeats 2000000
structure Cl where
  plan : List Nd
  workers : List Wk
  links : List (List Fr)
  deriving DecidableEq
theorem Cl.eq_iff {d g : Cl} : d = g ↔ d.plan = g.plan ∧ d.workers = g.workers ∧ d.links = g.links := by
  cases d;cases g;simp
def Cl.v (t : Bool) (x : Cl) : V := .agg [.lst t (lz t 7) (nds t (lz t 1) x.plan),.lst t (lz t 7) (wks t x.workers),.lst t (lz t 1) (frss t x.links)]
theorem nds_tidyC (l : List Nd) : V.tidyL (nds true 1 l) = true := by
  induction l with
  | nil => rfl
  | cons x l ih => simp [V.tidyL,ih,Nd.v,V.tidy,ints_tidy]
@[simp] theorem Cl.cells_v (t : Bool) (x : Cl) : (x.v t).cells = 3 := rfl
@[simp] theorem Cl.mention (t : Bool) (x : Cl) : V.mention (x.v t) = [] := by simp [Cl.v,V.mention,V.mentionL,lst_mention]
@[simp] theorem Cl.share (t : Bool) (x : Cl) : (x.v t).share = x.v false := by simp [Cl.v,V.share,V.shareL,lst_share,wks_shareL,frss_shareL]
@[simp] theorem Cl.snap (t : Bool) (x : Cl) (q : St) : V.snap q (x.v t) = some (x.v false) := by simp [Cl.v,V.snap,V.snapL,mp,wks_shareL,frss_shareL]
@[simp] theorem Cl.snapA (t : Bool) (x : Cl) (q : St) : V.snapA q (x.v t) = some (x.v false) := Cl.snap t x q
@[simp] theorem Cl.snapP (t : Bool) (x : Cl) (q : St) : V.snapP q (x.v t) = some (x.v false) := Cl.snap t x q
@[simp] theorem Cl.accM (t : Bool) (x : Cl) : V.accM (x.v t) = [] := by simp [Cl.v,V.accM,V.accML]
@[simp] theorem Cl.accF (t : Bool) (x : Cl) : V.accF (x.v t) = [] := by simp [Cl.v,V.accF,V.accFL]
@[simp] theorem Cl.ren (t : Bool) (x : Cl) (ρ : Nat → Option Nat) (vr : Nat → Nat) : V.ren ρ vr (x.v t) = x.v t := by simp [Cl.v,V.ren,V.renL]
@[simp] theorem Cl.bA (i : Nat) (t : Bool) (x : Cl) (r : List V) : bindArgs i (x.v t :: r) = ((i,x.v t) :: (bindArgs (i + 1) r).1,(bindArgs (i + 1) r).2) := rfl
@[simp] theorem Cl.lodF (x : Cl) (o i ver : Nat) (fs : List Nat) : V.lod o i ver fs (x.v false) = x.v false := by simp [Cl.v,V.lod,V.lodL]
@[simp] theorem Cl.fzF (x : Cl) (s : St) : V.fz (x.v false) s = some (x.v false,s) := by simp [Cl.v,V.fz,V.fzL,mp]
@[simp] theorem Cl.scal (t : Bool) (x : Cl) : V.scal (x.v t) = false := by simp [Cl.v,V.scal,V.scalL]
@[simp] theorem Cl.isTup (t : Bool) (x : Cl) : (x.v t).isTup = false := rfl
@[simp] theorem Cl.tidyT (x : Cl) : V.tidy (x.v true) = true := by simp [Cl.v,V.tidy,V.tidyL,nds_tidyC,wks_tidyT,frss_tidyT]
@[simp] theorem Cl.thawF (x : Cl) (id : Nat) : V.thaw id (x.v false) = (x.v false,[],id) := by simp [Cl.v,V.thaw,V.thawL]
@[simp] theorem Cl.thawT (x : Cl) (id : Nat) : V.thaw id (x.v true) = (.agg [.ref (id) 0 x.plan.length,.ref (id + 1) 0 x.workers.length,.ref (id + 1 + 1) 0 x.links.length],[(id,⟨false,false,7,nds true 1 x.plan,0⟩),(id + 1,⟨false,false,7,wks true x.workers,0⟩),(id + 1 + 1,⟨false,false,1,frss true x.links,0⟩)],id + 1 + 1 + 1) := by simp [Cl.v,V.thaw,V.thawL]
def bg_Frss (l : List (List Fr)) : Prop := l.length ≤ 140737488351232 ∧ ∀ x ∈ l,bg_Frs x
def w_Frss (l : List (List Fr)) : Nat := l.length + wS w_Frs l
theorem w_Frss_mem {l : List (List Fr)} {x : List Fr} (h : x ∈ l) : l.length + w_Frs x ≤ w_Frss l := by
  have := wS_mem (f:=w_Frs) h;unfold w_Frss;omega
theorem w_Frss_len {l : List (List Fr)} : l.length ≤ w_Frss l := by unfold w_Frss;omega
theorem l_sz_Frss (l : List (List Fr)) (hl : bg_Frss l) : ∀ x : Nat × Int,(x.1 ≤ l.length ∧ 0 ≤ x.2 ∧ x.2 < 2000000) → ∀ s,normE 2 (some [0,1,5]) s = ⟨[(0,.lst false 0 (frss false l)),(1,.int .i64 x.2),(5,.int .i64 x.1)],[],2⟩ →
 oc.loop 18 5 s = some (if 0 ≤ szI (wS w_Frs (l.drop x.1)) x.2 then (.exit 0,⟨[(1,.int .i64 (szI (wS w_Frs (l.drop x.1)) x.2))],[],2⟩) else (.ret,⟨[(1,.int .i64 (-1)),(4,.int .i64 (-1))],[],2⟩)) := by
 refine loop_ind (σ:=Nat × Int) (fun x => l.length - x.1) _ (fun x => ⟨[(0,.lst false 0 (frss false l)),(1,.int .i64 x.2),(5,.int .i64 x.1)],[],2⟩) _ ?_
 rintro ⟨i,a⟩ hi ih s hs
 simp only at hi
 refine loop_s cd18 rfl rfl hs ?_
 refine wa_ (wa_ (wc_region (w_ (m_ (h:=w_ (m_ (h:=w_ (le (h:=w_ (b_ (h:=wo_nil (e_ (h:=aft_normal (?_))))))))))))))
 refine c_ (h1:=?_) (h2:=?_)
 rotate_right 1
 focus
  intro c1
  first
  | exact dn c1
  | (
   have d1 := c1;try simp at d1
   obtain ⟨hi1,hi2,hi3⟩ := hi;have : i = l.length := (by omega);subst this
   refine wc_exit (?_)
   )
 rotate_right 1
 focus
  intro c1
  first
  | exact dn c1
  | (
   have d1 := c1;try simp at d1
   obtain ⟨hi1,hi2,hi3⟩ := hi;have hw := wrap_succ (i:=i) (by have := hl.1;omega);obtain ⟨d,hx,e1,g1⟩ := frss_cut (l:=l) (i:=i) (t:=false) (by omega);have hd := hl.2 d (List.mem_of_getElem? hx)
   refine wc_skip (?_)
   )
 all_goals first
 | refine aft_exit ?_
 | (
  refine aft_normal ?_
  refine wa_ (wc_block (wa_ (wc_region (w_ (m_ (h:=w_ (m_ (h:=w_ (x_ (h:=w_ (l_ (h:=w_ (m_ (h:=w_ (ca (hc:=sz_Frs d a hd (by omega) (by omega)) (h:=w_ (a_ (h:=wo_nil (e_ (h:=aft_normal (wa_ (wc_region (w_ (m_ (h:=w_ (b_ (h:=wo_nil (e_ (h:=aft_normal (?_))))))))))))))))))))))))))))))
  refine c_ (h1:=?_) (h2:=?_)
  rotate_right 1
  focus
   intro c2
   first
   | exact dn c2
   | (
    have d2 := c2;try simp at d2
    refine wc_skip (?_)
    )
  rotate_right 1
  focus
   intro c2
   first
   | exact dn c2
   | (
    have d2 := c2;try simp at d2
    refine wa_ (wc_region (w_ (a_ (h:=wo_nil (e_ (h:=aft_normal (wc_ret (?_))))))))
    )
  all_goals first | refine blk_normal ?_ | refine blk_ret ?_
  all_goals first
  | refine aft_ret ?_
  | (
   refine aft_normal ?_
   refine wc_region (w_ (m_ (h:=w_ (b_ (h:=w_ (a_ (h:=wo_nil (e_ (h:=?_)))))))))
   )
  )
 all_goals first
 | (refine (ih ((i + 1,szI (w_Frs d) a)) (⟨by simp;omega,by simp;omega,by have := szI_le0 (n:=w_Frs d) (a:=a) (by omega);simp;omega⟩) ?_ _ ?_).trans ?_;(focus (first | omega | (simp;done) | (simp;omega)));(focus (simp [normE,hw];done));(focus (simp only [e1,wS_cons];rw [szI_seq (by omega)])))
 | (apply end_leaf (ex:=Ext.ret) 2 (some [1,4]);(focus (simp [normE];rfl));(focus (simp only [e1,wS_cons];rw [szI_stop (by omega) (by omega)];simp;have := szI_neg (c:=w_Frs d) (a:=a) (by omega);simp [this])))
 | (apply end_leaf (ex:=(Ext.exit 0)) 2 (some [1,4]);(focus (simp [normE];rfl));(focus (have e0 : szI 0 a = a := (by unfold szI;rw [if_neg (by omega)];simp);simp [e0,hi2])))
theorem sz_Frss (l : List (List Fr)) (a : Int) (hb : bg_Frss l) (ha : 0 ≤ a) (hc : a < 2000000) : oc.call 18 [.lst false 0 (frss false l),.int .i64 a] = some (.int .i64 (szI (w_Frss l) a),[]) := by
 refine fun_s rfl cd18 rfl rfl rfl (by simp;rfl) (by simp;rfl) ?_
 have hb1 := hb.1
 have hw : IntKind.i64.wrap (a - l.length) = a - l.length := wrap_id (by omega) (by omega)
 refine wa_ (wc_region (w_ (a_ (h:=wo_nil (e_ (h:=aft_normal (wa_ (wc_region (w_ (m_ (h:=w_ (m_ (h:=w_ (le (h:=w_ (b_ (h:=w_ (a_ (h:=wo_nil (e_ (h:=aft_normal (wa_ (wa_ (wc_region (w_ (m_ (h:=w_ (b_ (h:=wo_nil (e_ (h:=aft_normal (?_))))))))))))))))))))))))))))))))
 refine c_ (h1:=?_) (h2:=?_)
 rotate_right 1
 focus
  intro c1
  first
  | exact dn c1
  | (
   have d1 := c1;try simp at d1
   simp only [hw] at d1;have e1 : szI l.length a = a - l.length := (by unfold szI;rw [if_neg (by omega)])
   refine wc_skip (?_)
   )
 rotate_right 1
 focus
  intro c1
  first
  | exact dn c1
  | (
   have d1 := c1;try simp at d1
   refine wa_ (wc_region (w_ (a_ (h:=wo_nil (e_ (h:=aft_normal (wc_ret (?_))))))))
   )
 all_goals first
 | refine aft_ret ?_
 | (
  refine aft_normal ?_
  refine wa_ (wa_ (wc_region (w_ (a_ (h:=wo_nil (e_ (h:=aft_normal (wc_block (?_)))))))))
  refine wc_loopI (l_sz_Frss l hb (0,a - l.length) ⟨by simp,by simp;omega,by simp;omega⟩ _ (by simp [normE,hw])) ?_ ?_
  rotate_right 1
  focus
   intro c2
   first
   | exact dn c2
   | (
    have d2 := c2;try simp at d2
    skip
    )
  rotate_right 1
  focus
   intro c2
   first
   | exact dn c2
   | (
    have d2 := c2;try simp at d2
    skip
    )
  all_goals first | refine blk_ret ?_ | refine blk_exit ?_
  all_goals first
  | refine aft_ret ?_
  | (
   refine aft_normal ?_
   refine wa_ (wc_region (w_ (m_ (h:=w_ (a_ (h:=wo_nil (e_ (h:=aft_normal (wc_ret (?_))))))))))
   )
  )
 all_goals (refine fin_ (hr:=(res_tmp rfl res_nil)) (h:=?_);(focus (simp [w_Frss,szI,hw] at *;grind)))
theorem l_to_Frss (l : List (List Fr)) (h : w_Frss l < 2000000) : ∀ x : Nat × (List (List Fr)),(x.1 ≤ l.length ∧ x.2.length = l.length ∧ x.2.take x.1 = l.take x.1) → ∀ s,normE 1 (some [0,3,4]) s = ⟨[(0,.lst false 0 (frss false l)),(3,.ref 1 0 l.length),(4,.int .i64 x.1)],[(1,⟨false,false,1,frss true x.2,0⟩)],2⟩ →
 oc.loop 22 3 s = some (.exit 0,⟨[(3,.ref 1 0 l.length)],[(1,⟨false,false,1,frss true l,0⟩)],2⟩) := by
 refine loop_ind (σ:=Nat × (List (List Fr))) (fun x => l.length - x.1) _ (fun x => ⟨[(0,.lst false 0 (frss false l)),(3,.ref 1 0 l.length),(4,.int .i64 x.1)],[(1,⟨false,false,1,frss true x.2,0⟩)],2⟩) _ ?_
 rintro ⟨i,r⟩ hi ih s hs
 simp only at hi
 refine loop_s cd22 rfl rfl hs ?_
 obtain ⟨hi1,hi2,hi3⟩ := hi
 have hlen := w_Frss_len (l:=l)
 refine wa_ (wa_ (wc_region (w_ (m_ (h:=w_ (m_ (h:=w_ (le (h:=w_ (b_ (h:=wo_nil (e_ (h:=aft_normal (?_))))))))))))))
 refine c_ (h1:=?_) (h2:=?_)
 rotate_right 1
 focus
  intro c1
  simp at c1;have : i = l.length := (by omega);subst this;rw [← hi2] at hi3;simp at hi3;rw [hi2] at hi3;simp at hi3;subst hi3
  refine wc_exit (?_)
 rotate_right 1
 focus
  intro c1
  simp at c1;have hw := wrap_succ (i:=i) (by omega);obtain ⟨d,hx,d1,g1⟩ := frss_cut (t:=false) c1;have hd := w_Frss_mem (List.mem_of_getElem? hx);obtain ⟨y,hy,_,g2⟩ := frss_cut (t:=true) (l:=r) (i:=i) (by omega);simp at g2
  refine wc_skip (?_)
 all_goals first
 | refine aft_exit ?_
 | (
  refine aft_normal ?_
  refine wa_ (wc_block (wc_region (w_ (m_ (h:=w_ (m_ (h:=w_ (m_ (h:=w_ (m_ (h:=w_ (x_ (h:=w_ (l_ (h:=w_ (ca (hc:=to_Frs d (by omega)) (h:=w_ (x_ (h:=w0 (s_ (h:=wo_nil (e_ (h:=blk_normal (aft_normal (wc_region (w_ (m_ (h:=w_ (b_ (h:=w_ (a_ (h:=wo_nil (e_ (h:=?_))))))))))))))))))))))))))))))))))
  )
 all_goals first
 | (refine (ih ((i + 1,r.set i d)) (⟨by simp;omega,by simpa using hi2,set_take hi3 hi2 hx⟩) ?_ _ ?_).trans ?_;(focus (first | omega | (simp;done) | (simp;omega)));(focus (simp [normE,hw];done));(focus (rfl)))
 | (apply end_leaf (ex:=(Ext.exit 0)) 1 (some [3]);(focus (simp [normE];rfl));(focus (simp)))
theorem to_Frss (l : List (List Fr)) (h : w_Frss l < 2000000) : oc.call 22 [.lst false 0 (frss false l)] = some (.lst true 1 (frss true l),[]) := by
 refine fun_s rfl cd22 rfl rfl rfl (by simp;rfl) (by simp;rfl) ?_
 have hlen := w_Frss_len (l:=l)
 refine wa_ (wc_region (w_ (aN (h:=wo_nil (e_ (h:=aft_normal (wa_ (wc_region (w_ (m_ (h:=w_ (le (h:=w_ (mk (h:=w_ (a_ (h:=wo_nil (e_ (h:=aft_normal (wa_ (wa_ (wc_region (w_ (a_ (h:=wo_nil (e_ (h:=aft_normal (wc_block (?_)))))))))))))))))))))))))))))
 refine wc_loop (l_to_Frss l h (0,List.replicate l.length []) (by simp) _ (by simp [normE,frss_zero])) ?_
 refine blk_exit (aft_normal (wa_ (wc_region (w_ (m_ (h:=w_ (a_ (h:=wo_nil (e_ (h:=aft_normal (wc_ret (?_))))))))))))
 all_goals (refine fin_ (hr:=(res_tmp rfl res_nil)) (h:=?_);(focus (first | (simp_all;done) | (simp_all <;> omega) | (simp_all <;> split <;> simp_all <;> omega))))
theorem l_eq_Frss (l m : List (List Fr)) (h : w_Frss l < 2000000) (h2 : w_Frss m < 2000000) (hlm : l.length = m.length) : ∀ i : Nat,(i ≤ l.length) → ∀ s,normE 2 (some [0,1,5]) s = ⟨[(0,.lst false 0 (frss false l)),(1,.lst false 0 (frss false m)),(5,.int .i64 i)],[],2⟩ →
 oc.loop 27 4 s = some (if l.drop i = m.drop i then (.exit 0,⟨[],[],2⟩) else (.ret,⟨[(4,.bool false)],[],2⟩)) := by
 refine loop_ind (σ:=Nat) (fun i => l.length - i) _ (fun i => ⟨[(0,.lst false 0 (frss false l)),(1,.lst false 0 (frss false m)),(5,.int .i64 i)],[],2⟩) _ ?_
 intro i hi ih s hs
 refine loop_s cd27 rfl rfl hs ?_
 have hl1 := w_Frss_len (l:=l)
 refine wa_ (wa_ (wc_region (w_ (m_ (h:=w_ (m_ (h:=w_ (le (h:=w_ (b_ (h:=wo_nil (e_ (h:=aft_normal (?_))))))))))))))
 refine c_ (h1:=?_) (h2:=?_)
 rotate_right 1
 focus
  intro c1
  simp at c1;have : i = l.length := (by omega);subst this
  refine wc_exit (?_)
 rotate_right 1
 focus
  intro c1
  simp at c1;have hw := wrap_succ (i:=i) (by omega);obtain ⟨x,hx,d1,g1⟩ := frss_cut (t:=false) c1;obtain ⟨y,hy,d2,g2⟩ := frss_cut (t:=false) (l:=m) (i:=i) (by omega);have m1 := w_Frss_mem (List.mem_of_getElem? hx);have m2 := w_Frss_mem (List.mem_of_getElem? hy)
  refine wc_skip (?_)
 all_goals first
 | refine aft_exit ?_
 | (
  refine aft_normal ?_
  refine wa_ (wc_block (wa_ (wc_draw (y_ (m_ (h:=ax_ (h:=y_ (m_ (h:=ax_ (h:=y_ (x_ (h:=ax_ (h:=y_ (l_ (h:=ax_ (h:=y_ (m_ (h:=ax_ (h:=y_ (m_ (h:=ax_ (h:=y_ (x_ (h:=ax_ (h:=y_ (l_ (h:=ax_ (h:=y_ (ca (hc:=eq_Frs x y (by omega) (by omega)) (h:=ax_ (h:=y_ (u_ (h:=ax_ (h:=wo_nil (ed (h:=aft_normal (?_)))))))))))))))))))))))))))))))))))))
  refine c_ (h1:=?_) (h2:=?_)
  rotate_right 1
  focus
   intro c2
   refine wc_skip (?_)
  rotate_right 1
  focus
   intro c2
   refine wa_ (wc_region (w_ (a_ (h:=wo_nil (e_ (h:=aft_normal (wc_ret (?_))))))))
  all_goals first | refine blk_normal ?_ | refine blk_ret ?_
  all_goals first
  | refine aft_ret ?_
  | (
   refine aft_normal ?_
   refine wc_region (w_ (m_ (h:=w_ (b_ (h:=w_ (a_ (h:=wo_nil (e_ (h:=?_)))))))))
   )
  )
 all_goals first
 | (refine (ih (i + 1) (by omega) ?_ _ ?_).trans ?_;(focus (first | omega | (simp;done) | (simp;omega)));(focus (simp [normE,hw];done));(focus (simp at c2;rw [d1,d2];simp [c2])))
 | (apply end_leaf (ex:=Ext.ret) 2 (some [4]);(focus (simp [normE];rfl));(focus (simp at c2;rw [d1,d2];simp [c2])))
 | (apply end_leaf (ex:=(Ext.exit 0)) 2 (some [4]);(focus (simp [normE];rfl));(focus (rw [if_pos (by simp [hlm])])))
theorem eq_Frss (l m : List (List Fr)) (h : w_Frss l < 2000000) (h2 : w_Frss m < 2000000) : oc.call 27 [.lst false 0 (frss false l),.lst false 0 (frss false m)] = some (.bool (decide (l = m)),[]) := by
 refine fun_s rfl cd27 rfl rfl rfl (by simp;rfl) (by simp;rfl) ?_
 refine wa_ (wc_region (w_ (a_ (h:=wo_nil (e_ (h:=aft_normal (wa_ (wa_ (wc_region (w_ (m_ (h:=w_ (le (h:=w_ (m_ (h:=w_ (le (h:=w_ (bE (h:=wo_nil (e_ (h:=aft_normal (?_)))))))))))))))))))))))
 refine c_ (h1:=?_) (h2:=?_)
 rotate_right 1
 focus
  intro c1
  simp at c1
  refine wc_skip (?_)
 rotate_right 1
 focus
  intro c1
  simp at c1;have hne : l ≠ m := (by rintro rfl;exact c1 rfl)
  refine wa_ (wc_region (w_ (a_ (h:=wo_nil (e_ (h:=aft_normal (wc_ret (?_))))))))
 all_goals first
 | refine aft_ret ?_
 | (
  refine aft_normal ?_
  refine wa_ (wa_ (wc_region (w_ (a_ (h:=wo_nil (e_ (h:=aft_normal (wc_block (?_)))))))))
  refine wc_loopI (l_eq_Frss l m h h2 (by omega) 0 (by omega) _ (by simp [normE])) ?_ ?_
  rotate_right 1
  focus
   intro c2
   skip
  rotate_right 1
  focus
   intro c2
   skip
  all_goals first | refine blk_ret ?_ | refine blk_exit ?_
  all_goals first
  | refine aft_ret ?_
  | (
   refine aft_normal ?_
   refine wa_ (wc_region (w_ (a_ (h:=wo_nil (e_ (h:=aft_normal (wc_ret (?_))))))))
   )
  )
 all_goals (refine fin_ (hr:=(res_tmp rfl res_nil)) (h:=?_);(focus (first | (simp_all;done) | (simp_all <;> omega) | (simp_all <;> split <;> simp_all <;> omega))))
def bg_Cl (x : Cl) : Prop := okB x.plan ∧ bg_Wks x.workers ∧ bg_Frss x.links
def szC (x : Cl) (a : Int) : Int := if szP x.plan a < 0 then -1 else szI (w_Frss x.links) (szI (w_Wks x.workers) (szP x.plan a))
theorem szI_ok {n : Nat} {a : Int} (h : 0 ≤ szI n a) : 0 ≤ a ∧ (n : Int) ≤ a ∧ szI n a ≤ a := by unfold szI at *;split at h <;> simp_all <;> omega
theorem szC_ok {x : Cl} {a : Int} (ha : a < 2000000) (h : 0 ≤ szC x a) : x.plan.length < 2000000 ∧ okN x.plan ∧ w_Wks x.workers < 2000000 ∧ w_Frss x.links < 2000000 := by
  unfold szC at h
  split at h
  · omega
  · rename_i hp
    obtain ⟨h1,h2,h3⟩ := szP_ok (l:=x.plan) (a:=a) ha (by omega)
    obtain ⟨h4,h5,_⟩ := szI_ok h
    obtain ⟨h6,h7,_⟩ := szI_ok h4
    exact ⟨h1,h2,by omega,by have := (szI_ok h4).2.2;omega⟩
theorem sz_Cl (x : Cl) (a : Int) (hb : bg_Cl x) (ha : 0 ≤ a) (hc : a < 2000000) : oc.call 6 [x.v false,.int .i64 a] = some (.int .i64 (szC x a),[]) := by
 refine fun_s rfl cd6 rfl rfl rfl (by simp;rfl) (by simp;rfl) ?_
 refine wa_ (wc_region (w_ (bx (h:=w_ (a_ (h:=wo_nil (e_ (h:=aft_normal (wa_ (wc_region (w_ (f_ (h:=w_ (l_ (h:=w_ (m_ (h:=w_ (ca (hc:=e_szNS x.plan 0 a hb.1 ha hc) (h:=w_ (a_ (h:=wo_nil (e_ (h:=aft_normal (wa_ (wa_ (wc_region (w_ (m_ (h:=w_ (b_ (h:=wo_nil (e_ (h:=aft_normal (?_))))))))))))))))))))))))))))))))))
 refine c_ (h1:=?_) (h2:=?_)
 rotate_right 1
 focus
  intro c1
  first
  | exact dn c1
  | (
   have d1 := c1;try simp at d1
   obtain ⟨p1,p2,p3⟩ := szP_ok (l:=x.plan) (a:=a) hc (by omega)
   refine wc_skip (?_)
   )
 rotate_right 1
 focus
  intro c1
  first
  | exact dn c1
  | (
   have d1 := c1;try simp at d1
   refine wa_ (wc_region (w_ (a_ (h:=wo_nil (e_ (h:=aft_normal (wc_ret (?_))))))))
   )
 all_goals first
 | refine aft_ret ?_
 | (
  refine aft_normal ?_
  refine wa_ (wc_region (w_ (f_ (h:=w_ (l_ (h:=w_ (m_ (h:=w_ (ca (hc:=sz_Wks x.workers (szP x.plan a) hb.2.1 (by omega) (by omega)) (h:=w_ (a_ (h:=wo_nil (e_ (h:=aft_normal (wa_ (wa_ (wc_region (w_ (m_ (h:=w_ (b_ (h:=wo_nil (e_ (h:=aft_normal (?_)))))))))))))))))))))))))
  refine c_ (h1:=?_) (h2:=?_)
  rotate_right 1
  focus
   intro c2
   first
   | exact dn c2
   | (
    have d2 := c2;try simp at d2
    have q := szI_ok (n:=w_Wks x.workers) (a:=szP x.plan a) (by omega)
    refine wc_skip (?_)
    )
  rotate_right 1
  focus
   intro c2
   first
   | exact dn c2
   | (
    have d2 := c2;try simp at d2
    refine wa_ (wc_region (w_ (a_ (h:=wo_nil (e_ (h:=aft_normal (wc_ret (?_))))))))
    )
  all_goals first
  | refine aft_ret ?_
  | (
   refine aft_normal ?_
   refine wa_ (wc_region (w_ (f_ (h:=w_ (l_ (h:=w_ (m_ (h:=w_ (ca (hc:=sz_Frss x.links (szI (w_Wks x.workers) (szP x.plan a)) hb.2.2 (by omega) (by omega)) (h:=w_ (a_ (h:=wo_nil (e_ (h:=aft_normal (wa_ (wa_ (wc_region (w_ (m_ (h:=w_ (b_ (h:=wo_nil (e_ (h:=aft_normal (?_)))))))))))))))))))))))))
   refine c_ (h1:=?_) (h2:=?_)
   rotate_right 1
   focus
    intro c3
    first
    | exact dn c3
    | (
     have d3 := c3;try simp at d3
     refine wc_skip (?_)
     )
   rotate_right 1
   focus
    intro c3
    first
    | exact dn c3
    | (
     have d3 := c3;try simp at d3
     refine wa_ (wc_region (w_ (a_ (h:=wo_nil (e_ (h:=aft_normal (wc_ret (?_))))))))
     )
   all_goals first
   | refine aft_ret ?_
   | (
    refine aft_normal ?_
    refine wa_ (wc_region (w_ (m_ (h:=w_ (a_ (h:=wo_nil (e_ (h:=aft_normal (wc_ret (?_))))))))))
    )
   )
  )
 all_goals (refine fin_ (hr:=(res_tmp rfl res_nil)) (h:=?_);(focus (simp only [szC];simp [szI] at * <;> grind)))
theorem to_Cl (x : Cl) (h1 : x.plan.length < 2000000) (h2 : okN x.plan) (h3 : w_Wks x.workers < 2000000) (h4 : w_Frss x.links < 2000000) : oc.call 8 [x.v false] = some (x.v true,[]) := by
 refine fun_s rfl cd8 rfl rfl rfl (by simp;rfl) (by simp;rfl) ?_
 refine wa_ (wc_region (w_ (bx (h:=w_ (al (h:=wo_nil (e_ (h:=aft_normal (wa_ (wc_region (w_ (al (h:=wo_nil (e_ (h:=aft_normal (wa_ (wc_region (w_ (f_ (h:=w_ (l_ (h:=w_ (ca (hc:=e_toNS x.plan 0 h1 h2) (h:=w_ (f_ (h:=w0 (s_ (h:=wo_nil (e_ (h:=aft_normal (wa_ (wc_region (w_ (f_ (h:=w_ (l_ (h:=w_ (ca (hc:=to_Wks x.workers h3) (h:=w_ (f_ (h:=w0 (s_ (h:=wo_nil (e_ (h:=aft_normal (wa_ (?_)))))))))))))))))))))))))))))))))))))))))))))))
 refine wc_region (w_ (f_ (h:=w_ (l_ (h:=w_ (ca (hc:=to_Frss x.links h4) (h:=w_ (f_ (h:=w0 (s_ (h:=wo_nil (e_ (h:=aft_normal (wa_ (wc_region (w_ (l_ (h:=w0 (s_ (h:=wo_nil (e_ (h:=aft_normal (wc_ret (?_))))))))))))))))))))))))
 all_goals (refine fin_ (hr:=(res_cell (tys_ok.zero _ _ rfl) rfl (by simp;rfl) (by rfl) res_nil)) (h:=?_);(focus (simp [Cl.v])))
theorem eq_Cl (x : Cl) (h1 : x.plan.length < 2000000) (h2 : okN x.plan) (h3 : w_Wks x.workers < 2000000) (h4 : w_Frss x.links < 2000000) : oc.call 11 [x.v false,x.v false] = some (.bool true,[]) := by
 refine fun_s rfl cd11 rfl rfl rfl (by simp;rfl) (by simp;rfl) ?_
 refine wa_ (wc_region (w_ (bx (h:=w_ (bx (h:=w_ (a_ (h:=wo_nil (e_ (h:=aft_normal (wa_ (wa_ (wc_region (w_ (f_ (h:=w_ (l_ (h:=w_ (f_ (h:=w_ (l_ (h:=w_ (ca (hc:=e_eqNS x.plan x.plan 0 0 h1 h1 h2 h2) (h:=w_ (u_ (h:=wo_nil (e_ (h:=aft_normal (?_)))))))))))))))))))))))))))))
 refine c_ (h1:=?_) (h2:=?_)
 rotate_right 1
 focus
  intro c1
  first
  | exact dn c1
  | (
   have d1 := c1;try simp at d1
   refine wc_skip (?_)
   )
 rotate_right 1
 focus
  intro c1
  first
  | exact dn c1
  | (
   have d1 := c1;try simp at d1
   refine wa_ (wc_region (w_ (a_ (h:=wo_nil (e_ (h:=aft_normal (wc_ret (?_))))))))
   )
 all_goals first
 | refine aft_ret ?_
 | (
  refine aft_normal ?_
  refine wa_ (wa_ (wc_region (w_ (f_ (h:=w_ (l_ (h:=w_ (f_ (h:=w_ (l_ (h:=w_ (ca (hc:=eq_Wks x.workers x.workers h3 h3) (h:=w_ (u_ (h:=wo_nil (e_ (h:=aft_normal (?_))))))))))))))))))
  refine c_ (h1:=?_) (h2:=?_)
  rotate_right 1
  focus
   intro c2
   first
   | exact dn c2
   | (
    have d2 := c2;try simp at d2
    refine wc_skip (?_)
    )
  rotate_right 1
  focus
   intro c2
   first
   | exact dn c2
   | (
    have d2 := c2;try simp at d2
    refine wa_ (wc_region (w_ (a_ (h:=wo_nil (e_ (h:=aft_normal (wc_ret (?_))))))))
    )
  all_goals first
  | refine aft_ret ?_
  | (
   refine aft_normal ?_
   refine wa_ (wa_ (wc_region (w_ (f_ (h:=w_ (l_ (h:=w_ (f_ (h:=w_ (l_ (h:=w_ (ca (hc:=eq_Frss x.links x.links h4 h4) (h:=w_ (u_ (h:=wo_nil (e_ (h:=aft_normal (?_))))))))))))))))))
   refine c_ (h1:=?_) (h2:=?_)
   rotate_right 1
   focus
    intro c3
    first
    | exact dn c3
    | (
     have d3 := c3;try simp at d3
     refine wc_skip (?_)
     )
   rotate_right 1
   focus
    intro c3
    first
    | exact dn c3
    | (
     have d3 := c3;try simp at d3
     refine wa_ (wc_region (w_ (a_ (h:=wo_nil (e_ (h:=aft_normal (wc_ret (?_))))))))
     )
   all_goals first
   | refine aft_ret ?_
   | (
    refine aft_normal ?_
    refine wa_ (wc_region (w_ (a_ (h:=wo_nil (e_ (h:=aft_normal (wc_ret (?_))))))))
    )
   )
  )
 all_goals (refine fin_ (hr:=(res_tmp rfl res_nil)) (h:=?_);(focus (simp)))
theorem cellsAll_map {α : Type} {f : α → V} {k : Nat} (h : ∀ x,(f x).cells = k) : ∀ l : List α,V.cellsAll k (l.map f) = true
  | [] => rfl
  | x :: l => by simp only [List.map_cons,V.cellsAll,List.all_cons,h,decide_true,Bool.true_and];exact cellsAll_map h l
@[simp] theorem cellsAll_ints (l : List Int) : V.cellsAll 1 (ints l) = true := cellsAll_map (f:=.int .i64) (fun _ => rfl) l
@[simp] theorem cellsAll_ets (t : Bool) (l : List Et) : V.cellsAll 2 (ets t l) = true := cellsAll_map (f:=Et.v t) (fun _ => rfl) l
@[simp] theorem cellsAll_cts (l : List Ct) : V.cellsAll 3 (cts l) = true := cellsAll_map (f:=Ct.v) (fun _ => rfl) l
@[simp] theorem cellsAll_frs (t : Bool) (l : List Fr) : V.cellsAll 6 (frs t l) = true := cellsAll_map (f:=Fr.v t) (fun _ => rfl) l
@[simp] theorem cellsAll_nds (t : Bool) (s : Nat) (l : List Nd) : V.cellsAll 7 (nds t s l) = true := cellsAll_map (f:=fun d : Nd => d.v t s) (fun _ => rfl) l
end Go.Proofs.YtadaeiahfidodaaGreat.Ev
