/- Part 5 of the proof that the law named in the last part returns true at every argument: an evaluator of the program, shown sound, and its runs. No further conditions. -/
import Derived.Test.YtbcgenkegnmkhaaMLp604
namespace Go.Proofs.Ytbcgenkegnmkhaa.Ev
open Go
set_option maxRecDepth 100000
set_option linter.unusedSimpArgs false
set_option linter.unusedVariables false
set_option maxHeartbeats 2000000
theorem l_drawE (c : List Int) (hc : okS c) : ∀ x : Nat × Nat × (List Nd),(x.1 < 10 ∧ x.2.1 + 25 * x.1 < 600000000 ∧ rightP x.2.2) → ∀ s,normE 1 (some [0,3,4]) s = ⟨[(0,.ptr 0 0 []),(3,.ref 1 0 x.2.2.length),(4,.int .i64 x.1)],[(0,⟨true,false,2,[srcV c x.2.1],0⟩),(1,⟨false,false,7,nds true 1 x.2.2,0⟩)],2⟩ →
    ∃ r,oc.loop 71 5 s = some r ∧ (∃ (pl' : List Nd) (a' : Nat),r = (.exit 0,⟨[(3,.ref 1 0 pl'.length)],[(0,⟨true,false,2,[srcV c a'],0⟩),(1,⟨false,false,7,nds true 1 pl',0⟩)],2⟩) ∧ rightP pl' ∧ a' ≤ x.2.1 + 25 * x.1) := by
  refine loop_indE (σ:=Nat × Nat × (List Nd)) (fun x => x.1) _ (fun x => ⟨[(0,.ptr 0 0 []),(3,.ref 1 0 x.2.2.length),(4,.int .i64 x.1)],[(0,⟨true,false,2,[srcV c x.2.1],0⟩),(1,⟨false,false,7,nds true 1 x.2.2,0⟩)],2⟩) (fun x r => ∃ (pl' : List Nd) (a' : Nat),r = (.exit 0,⟨[(3,.ref 1 0 pl'.length)],[(0,⟨true,false,2,[srcV c a'],0⟩),(1,⟨false,false,7,nds true 1 pl',0⟩)],2⟩) ∧ rightP pl' ∧ a' ≤ x.2.1 + 25 * x.1) ?_
  rintro ⟨k,a,pl⟩ hi ih s hs
  simp only at hi
  refine loop_sE (Q:=fun r => ∃ (pl' : List Nd) (a' : Nat),r = (.exit 0,⟨[(3,.ref 1 0 pl'.length)],[(0,⟨true,false,2,[srcV c a'],0⟩),(1,⟨false,false,7,nds true 1 pl',0⟩)],2⟩) ∧ rightP pl' ∧ a' ≤ a + 25 * k) cd71 rfl rfl hs ?_
  obtain ⟨hi1,hi2,hi3⟩ := hi
  have hi3' := hi3
  obtain ⟨r1,r2,r3,r4⟩ := hi3'
  have hok := hi3.ok
  obtain ⟨hg1,hg2,hg3,hg4⟩ := look_good hok r4
  obtain ⟨N,hN⟩ : ∃ N,pl.length = N := ⟨_,rfl⟩
  have hn0 := e_next c a 11 hc (by omega) (by omega)
  have hop0 := nxtV_in (c:=c) (a:=a) (n:=11) (by omega)
  obtain ⟨op,hop⟩ : ∃ op : Nat,nxtV c a 11 = (op : Int) := ⟨(nxtV c a 11).toNat,by omega⟩
  rw [hop] at hn0 hop0
  obtain ⟨q1,q2⟩ := nxtV_in (c:=c) (a:=a + 1) (n:=pl.length) (by omega)
  obtain ⟨A,hA⟩ : ∃ A : Nat,nxtV c (a + 1) pl.length = (A : Int) := ⟨(nxtV c (a + 1) pl.length).toNat,by omega⟩
  have hAl : A < (widN pl).length := by omega
  have hw := e_l3WidthI pl (widN pl) (by omega) hg1 A (by omega) (by omega)
  have hw2 := hg3 A (by omega)
  obtain ⟨w,hww⟩ : ∃ w : Nat,at0 (widN pl) (A : Int) = (w : Int) := ⟨(at0 (widN pl) (A : Int)).toNat,by omega⟩
  rw [hww] at hw hw2
  obtain ⟨q3,q4⟩ := nxtV_in (c:=c) (a:=a + 2) (n:=3) (by omega)
  obtain ⟨j,hj⟩ : ∃ j : Nat,nxtV c (a + 2) 3 = (j : Int) := ⟨(nxtV c (a + 2) 3).toNat,by omega⟩
  have hnx := e_next c (a + 1) pl.length hc (by omega) (by omega)
  rw [hA] at hnx
  have hnj := e_next c (a + 2) 3 hc (by omega) (by omega)
  rw [hj] at hnj
  have hll := lodRow_len (o:=1) (ver:=0) (xs:=nds true 1 pl) (i:=0)
  have hlast : ∀ y : V,(lodRow 1 0 0 (nds true 1 pl) ++ [y])[pl.length]? = some y := fun y => by rw [List.getElem?_append_right (by rw [hll];simp)];simp [hll]
  have hwl : IntKind.i64.wrap ((pl.length : Int) + 1 - 1) = (pl.length : Int) := by rw [wrap_id (by omega) (by omega)];omega
  have hstep : ∀ {E : List (Nat × V)} {O : List (Nat × Ob)} {m q m3 v0 v1 a' k' : Nat} {pl' : List Nd},geta E 0 = some (.ptr 0 0 []) → geta E 3 = some (.ref q 0 m3) → geta E 4 = some (.int .i64 (k' : Nat)) → geta O 0 = some ⟨true,false,2,[srcV c a'],v0⟩ → geta O q = some ⟨false,false,7,nds true 1 pl',v1⟩ → 1 ≤ q → m3 = pl'.length → k' + 1 = k → rightP pl' → a' ≤ a + 25 → a + 25 * k < 600000000 →
    ∃ r,oc.loop 71 5 ⟨E,O,m⟩ = some r ∧ ∃ (pl' : List Nd) (a' : Nat),r = (.exit 0,⟨[(3,.ref 1 0 pl'.length)],[(0,⟨true,false,2,[srcV c a'],0⟩),(1,⟨false,false,7,nds true 1 pl',0⟩)],2⟩) ∧ rightP pl' ∧ a' ≤ a + 25 * k := by
    intro E O m q m3 v0 v1 a' k' pl' h0 h3 h4 g0 gq hq hm hk hr ha hb
    exact (ih (k',a',pl') ⟨by simp only;omega,by simp only;omega,hr⟩ (by simp only;omega) _ (norm_draw h0 h3 h4 g0 gq hm hq)).imp (fun r h => ⟨h.1,let ⟨x,y,e,h1,h2⟩ := h.2;⟨x,y,e,h1,by simp only at h2;omega⟩⟩)
  have hwl2 : IntKind.i64.wrap (pl.length : Int) = (pl.length : Int) := wrap_id (by omega) (by omega)
  have hnk := e_next c (a + 2) pl.length hc (by omega) (by omega)
  refine wa_ (wa_ (wc_region (w_ (m_ (h:=w_ (b_ (h:=w_ (m_ (h:=?_)))))))))
  refine gw_ (h1:=?_) (h2:=?_)
  rotate_right 1
  focus
   intro c1
   first
   | exact dn c1
   | (have d1 := c1;try simp at d1
      refine go_ (h:=go_ (h:=go_ (h:=?_)))
      )
  rotate_right 1
  focus
   intro c1
   first
   | exact dn c1
   | (have d1 := c1;try simp at d1
      refine g_ (h:=w_ (m_ (h:=g_ (h:=w_ (le (h:=g_ (h:=w_ (b_ (h:=?_)))))))))
      )
  all_goals
   refine w_ (pk (h:=wo_nil (e_ (h:=?_))))
  all_goals first
  | (refine aft_normal ?_
     refine c_ (h1:=?_) (h2:=?_)
     rotate_right 1
     focus
      intro c2
      first
      | exact dn c2
      | (have d2 := c2;try simp at d2
         refine wc_exit (?_)
         )
     rotate_right 1
     focus
      intro c2
      first
      | exact dn c2
      | (have d2 := c2;try simp at d2
         refine wc_skip (?_)
         )
     )
  all_goals first
  | refine aft_exit ?_
  | (refine aft_normal ?_
     refine wa_ (wc_block (wa_ (wc_told (h:=wA (oA (h:=bs (h:=wA (oA (h:=m_ (h:=wA (?_)))))))))))
     refine kA_new (h:=?_)
     refine wA (oA (h:=m_ (h:=wA (oA (h:=m_ (h:=?_))))))
     refine iA cd115 rfl (h:=?_)
     refine wa_ (wc_region (w_ (al (h:=wo_nil (e_ (h:=aft_normal (wa_ (wc_region (w_ (m_ (h:=w_ (le (h:=w_ (a_ (h:=wo_nil (e_ (h:=aft_normal (?_))))))))))))))))))
     refine wa_ (wc_region (w_ (m_ (h:=w_ (cP (hc:=hn0) (h:=w_ (b_ (h:=w_ (m_ (h:=w_ (m_ (h:=w_ (cP (hc:=hnx) (h:=w_ (bd (h:=w_ (al (h:=w0 (s_ (h:=wo_nil (e_ (h:=?_))))))))))))))))))))))
     refine aft_normal (wa_ (wc_region (w_ (m_ (h:=w_ (f_ (h:=w_ (l_ (h:=w_ (ca (hc:=hw) (h:=w_ (a_ (h:=wo_nil (e_ (h:=aft_normal (wa_ (wa_ (?_))))))))))))))))))
     refine wc_region (w_ (f_ (h:=w_ (l_ (h:=wo_nil (e_ (h:=aft_normal (wc_block (wa_ (wc_region (w_ (bE (h:=w_ (a_ (h:=wo_nil (e_ (h:=aft_normal (?_))))))))))))))))))
     refine c_ (h1:=?_) (h2:=?_)
     rotate_right 1
     focus
      intro c3
      first
      | exact dn c3
      | (have d3 := c3;try simp at d3
         refine wa_ (wc_region (w_ (bE (h:=w_ (a_ (h:=wo_nil (e_ (h:=aft_normal (?_)))))))))
         refine c_ (h1:=?_) (h2:=?_)
         rotate_right 1
         focus
          intro c4
          first
          | exact dn c4
          | (have d4 := c4;try simp at d4
             refine wa_ (wc_region (w_ (bE (h:=w_ (a_ (h:=wo_nil (e_ (h:=aft_normal (?_)))))))))
             refine c_ (h1:=?_) (h2:=?_)
             rotate_right 1
             focus
              intro c5
              first
              | exact dn c5
              | (have d5 := c5;try simp at d5
                 refine wa_ (wc_region (w_ (bE (h:=w_ (a_ (h:=wo_nil (e_ (h:=aft_normal (?_)))))))))
                 refine c_ (h1:=?_) (h2:=?_)
                 rotate_right 1
                 focus
                  intro c6
                  first
                  | exact dn c6
                  | (have d6 := c6;try simp at d6
                     refine wa_ (wc_region (w_ (bE (h:=w_ (a_ (h:=wo_nil (e_ (h:=aft_normal (?_)))))))))
                     refine c_ (h1:=?_) (h2:=?_)
                     rotate_right 1
                     focus
                      intro c7
                      first
                      | exact dn c7
                      | (have d7 := c7;try simp at d7
                         refine wa_ (wa_ (wc_region (w_ (bE (h:=w_ (a_ (h:=wo_nil (e_ (h:=aft_normal (?_))))))))))
                         refine c_ (h1:=?_) (h2:=?_)
                         rotate_right 1
                         focus
                          intro c8
                          first
                          | exact dn c8
                          | (have d8 := c8;try simp at d8
                             refine wa_ (wc_region (w_ (bE (h:=w_ (a_ (h:=wo_nil (e_ (h:=aft_normal (?_)))))))))
                             refine c_ (h1:=?_) (h2:=?_)
                             rotate_right 1
                             focus
                              intro c9
                              first
                              | exact dn c9
                              | (have d9 := c9;try simp at d9
                                 refine wc_region (w_ (bE (h:=w_ (a_ (h:=wo_nil (e_ (h:=?_)))))))
                                 )
                             rotate_right 1
                             focus
                              intro c9
                              first
                              | exact dn c9
                              | (have d9 := c9;try simp at d9
                                 refine wc_skip (?_)
                                 )
                             )
                         rotate_right 1
                         focus
                          intro c8
                          first
                          | exact dn c8
                          | (have d8 := c8;try simp at d8
                             refine wc_skip (?_)
                             )
                         all_goals first
                         | (refine aft_normal ?_
                            refine c_ (h1:=?_) (h2:=?_)
                            rotate_right 1
                            focus
                             intro c10
                             first
                             | exact dn c10
                             | (have d10 := c10;try simp at d10
                                refine wc_skip (?_)
                                )
                            rotate_right 1
                            focus
                             intro c10
                             first
                             | exact dn c10
                             | (have d10 := c10;try simp at d10
                                refine wc_region (w_ (m_ (h:=w_ (m_ (h:=w_ (cP (hc:=e_next c (a + 2) w hc (by omega) (by omega)) (h:=w_ (f_ (h:=w0 (s_ (h:=wo_nil (e_ (h:=?_)))))))))))))
                                )
                            )
                         )
                     rotate_right 1
                     focus
                      intro c7
                      first
                      | exact dn c7
                      | (have d7 := c7;try simp at d7
                         refine wc_region (w_ (m_ (h:=w_ (m_ (h:=w_ (?_))))))
                         refine b_ (hv:=iv_addI (c:=(w : Int) + 1) rfl (by omega) (by omega)) (h:=?_)
                         refine w_ (cP (hc:=e_next c (a + 2) ((w : Int) + 1) hc (by omega) (by omega)) (h:=w_ (f_ (h:=w0 (s_ (h:=wo_nil (e_ (h:=?_))))))))
                         )
                     )
                 rotate_right 1
                 focus
                  intro c6
                  first
                  | exact dn c6
                  | (have d6 := c6;try simp at d6
                     refine wa_ (wc_region (w_ (m_ (h:=w_ (m_ (h:=w_ (cP (hc:=hnk) (h:=w_ (f_ (h:=w0 (s_ (h:=wo_nil (e_ (h:=aft_normal (wc_region (w_ (m_ (h:=w_ (m_ (h:=?_))))))))))))))))))))
                     refine w_ (cP (hc:=e_next c (a + 3) w hc (by omega) (by omega)) (h:=w_ (b_ (h:=w_ (f_ (h:=w0 (s_ (h:=wo_nil (e_ (h:=?_))))))))))
                     )
                 )
             rotate_right 1
             focus
              intro c5
              first
              | exact dn c5
              | (have d5 := c5;try simp at d5
                 refine wc_region (w_ (m_ (h:=w_ (m_ (h:=w_ (cP (hc:=hnk) (h:=w_ (f_ (h:=w0 (s_ (h:=wo_nil (e_ (h:=?_)))))))))))))
                 )
             )
         rotate_right 1
         focus
          intro c4
          first
          | exact dn c4
          | (have d4 := c4;try simp at d4
             refine wa_ (wc_region (w_ (m_ (h:=w_ (cP (hc:=hnj) (h:=w_ (?_)))))))
             refine b_ (hv:=iv_addI (c:=((j + 1 : Nat) : Int)) (by omega) (by omega) (by omega)) (h:=?_)
             refine w_ (a_ (h:=wo_nil (e_ (h:=aft_normal (wc_block (?_))))))
             refine uL cd115 rfl rfl ?_
             refine wa_ (wa_ (wc_region (w_ (m_ (h:=w_ (b_ (h:=wo_nil (e_ (h:=aft_normal (?_))))))))))
             refine c_ (h1:=?_) (h2:=?_)
             rotate_right 1
             focus
              intro c11
              first
              | exact dn c11
              | (have d11 := c11;try simp at d11
                 exfalso;simp at c11;omega
                 )
             rotate_right 1
             focus
              intro c11
              first
              | exact dn c11
              | (have d11 := c11;try simp at d11
                 refine wc_skip (?_)
                 )
             all_goals first
             | refine aft_exit ?_
             | (refine aft_normal ?_
                refine wa_ (wc_block (wc_draw (y_ (f_ (h:=ax_ (h:=y_ (l_ (h:=ax_ (h:=y_ (m_ (h:=ax_ (h:=y_ (m_ (h:=ax_ (h:=?_)))))))))))))))
                first | refine y_ (cP (hc:=e_next c (a + 3) w hc (by omega) (by omega)) (h:=?_)) | refine y_ (cP (hc:=e_next c (a + 3 + 1) w hc (by omega) (by omega)) (h:=?_)) | refine y_ (cP (hc:=e_next c (a + 3 + 1 + 1) w hc (by omega) (by omega)) (h:=?_))
                refine ax_ (h:=y_ (bs (h:=ax_ (h:=y_ (ap (h:=ax_ (h:=y_ (f_ (h:=ax_ (h:=y0 (s_ (h:=ax_ (h:=wo_nil (ed (h:=blk_normal (aft_normal (wc_region (w_ (m_ (h:=w_ (?_)))))))))))))))))))))
                refine b_ (hv:=iv_subI rfl (by omega) (by omega)) (h:=?_)
                refine w_ (a_ (h:=wo_nil (e_ (h:=?_))))
                )
             all_goals first
             | refine uX ?_
             | (refine uN ?_
                refine uL cd115 rfl rfl ?_
                refine wa_ (wa_ (wc_region (w_ (m_ (h:=w_ (b_ (h:=wo_nil (e_ (h:=aft_normal (?_))))))))))
                refine c_ (h1:=?_) (h2:=?_)
                rotate_right 1
                focus
                 intro c12
                 first
                 | exact dn c12
                 | (have d12 := c12;try simp at d12
                    refine wc_exit (?_)
                    )
                rotate_right 1
                focus
                 intro c12
                 first
                 | exact dn c12
                 | (have d12 := c12;try simp at d12
                    refine wc_skip (?_)
                    )
                all_goals first
                | refine aft_exit ?_
                | (refine aft_normal ?_
                   refine wa_ (wc_block (wc_draw (y_ (f_ (h:=ax_ (h:=y_ (l_ (h:=ax_ (h:=y_ (m_ (h:=ax_ (h:=y_ (m_ (h:=ax_ (h:=?_)))))))))))))))
                   first | refine y_ (cP (hc:=e_next c (a + 3) w hc (by omega) (by omega)) (h:=?_)) | refine y_ (cP (hc:=e_next c (a + 3 + 1) w hc (by omega) (by omega)) (h:=?_)) | refine y_ (cP (hc:=e_next c (a + 3 + 1 + 1) w hc (by omega) (by omega)) (h:=?_))
                   refine ax_ (h:=y_ (bs (h:=ax_ (h:=y_ (ap (h:=ax_ (h:=y_ (f_ (h:=ax_ (h:=y0 (s_ (h:=ax_ (h:=wo_nil (ed (h:=blk_normal (aft_normal (wc_region (w_ (m_ (h:=w_ (?_)))))))))))))))))))))
                   refine b_ (hv:=iv_subI rfl (by omega) (by omega)) (h:=?_)
                   refine w_ (a_ (h:=wo_nil (e_ (h:=?_))))
                   )
                all_goals first
                | refine uX ?_
                | (refine uN ?_
                   refine uL cd115 rfl rfl ?_
                   refine wa_ (wa_ (wc_region (w_ (m_ (h:=w_ (b_ (h:=wo_nil (e_ (h:=aft_normal (?_))))))))))
                   refine c_ (h1:=?_) (h2:=?_)
                   rotate_right 1
                   focus
                    intro c13
                    first
                    | exact dn c13
                    | (have d13 := c13;try simp at d13
                       refine wc_exit (?_)
                       )
                   rotate_right 1
                   focus
                    intro c13
                    first
                    | exact dn c13
                    | (have d13 := c13;try simp at d13
                       refine wc_skip (?_)
                       )
                   all_goals first
                   | refine aft_exit ?_
                   | (refine aft_normal ?_
                      refine wa_ (wc_block (wc_draw (y_ (f_ (h:=ax_ (h:=y_ (l_ (h:=ax_ (h:=y_ (m_ (h:=ax_ (h:=y_ (m_ (h:=ax_ (h:=?_)))))))))))))))
                      first | refine y_ (cP (hc:=e_next c (a + 3) w hc (by omega) (by omega)) (h:=?_)) | refine y_ (cP (hc:=e_next c (a + 3 + 1) w hc (by omega) (by omega)) (h:=?_)) | refine y_ (cP (hc:=e_next c (a + 3 + 1 + 1) w hc (by omega) (by omega)) (h:=?_))
                      refine ax_ (h:=y_ (bs (h:=ax_ (h:=y_ (ap (h:=ax_ (h:=y_ (f_ (h:=ax_ (h:=y0 (s_ (h:=ax_ (h:=wo_nil (ed (h:=blk_normal (aft_normal (wc_region (w_ (m_ (h:=w_ (?_)))))))))))))))))))))
                      refine b_ (hv:=iv_subI rfl (by omega) (by omega)) (h:=?_)
                      refine w_ (a_ (h:=wo_nil (e_ (h:=?_))))
                      )
                   all_goals first
                   | refine uX ?_
                   | (refine uN ?_
                      refine uL cd115 rfl rfl ?_
                      refine wa_ (wa_ (wc_region (w_ (m_ (h:=w_ (b_ (h:=wo_nil (e_ (h:=aft_normal (?_))))))))))
                      refine c_ (h1:=?_) (h2:=?_)
                      rotate_right 1
                      focus
                       intro c14
                       first
                       | exact dn c14
                       | (have d14 := c14;try simp at d14
                          refine wc_exit (?_)
                          )
                      rotate_right 1
                      focus
                       intro c14
                       first
                       | exact dn c14
                       | (have d14 := c14;try simp at d14
                          exfalso;simp at c14;omega
                          )
                      all_goals first
                      | refine aft_exit ?_
                      | (refine aft_normal ?_
                         refine wa_ (wc_block (wc_draw (y_ (f_ (h:=ax_ (h:=y_ (l_ (h:=ax_ (h:=y_ (m_ (h:=ax_ (h:=y_ (m_ (h:=ax_ (h:=?_)))))))))))))))
                         first | refine y_ (cP (hc:=e_next c (a + 3) w hc (by omega) (by omega)) (h:=?_)) | refine y_ (cP (hc:=e_next c (a + 3 + 1) w hc (by omega) (by omega)) (h:=?_)) | refine y_ (cP (hc:=e_next c (a + 3 + 1 + 1) w hc (by omega) (by omega)) (h:=?_))
                         refine ax_ (h:=y_ (bs (h:=ax_ (h:=y_ (ap (h:=ax_ (h:=y_ (f_ (h:=ax_ (h:=y0 (s_ (h:=ax_ (h:=wo_nil (ed (h:=blk_normal (aft_normal (wc_region (w_ (m_ (h:=w_ (?_)))))))))))))))))))))
                         refine b_ (hv:=iv_subI rfl (by omega) (by omega)) (h:=?_)
                         refine w_ (a_ (h:=wo_nil (e_ (h:=?_))))
                         )
                      all_goals first
                      | refine uX ?_
                      )
                   )
                )
             all_goals refine blk_exit ?_
             )
         )
     rotate_right 1
     focus
      intro c3
      first
      | exact dn c3
      | (have d3 := c3;try simp at d3
         refine wa_ (wc_region (w_ (m_ (h:=w_ (m_ (h:=w_ (cP (hc:=e_next c (a + 2) w hc (by omega) (by omega)) (h:=w_ (f_ (h:=w0 (s_ (h:=wo_nil (e_ (h:=aft_normal (wa_ (wc_region (w_ (m_ (h:=?_)))))))))))))))))))
         refine w_ (cP (hc:=e_next c (a + 3) 3 hc (by omega) (by omega)) (h:=w_ (f_ (h:=w0 (s_ (h:=wo_nil (e_ (h:=aft_normal (wc_region (w_ (m_ (h:=w_ (cP (hc:=e_next c (a + 4) 4 hc (by omega) (by omega)) (h:=w_ (f_ (h:=w0 (s_ (h:=wo_nil (e_ (h:=?_))))))))))))))))))))
         )
     all_goals refine blk_normal ?_
     all_goals first
     | (refine aft_normal ?_
        refine wa_ (wc_region (w_ (l_ (h:=w0 (s_ (h:=wo_nil (e_ (h:=aft_normal (wc_ret (?_))))))))))
        )
     all_goals (refine ⟨by simp,_,(res_cell (tys_ok.zero _ _ rfl) rfl (by simp;rfl) (by rfl) res_nil),by simp,?_⟩)
     all_goals
      refine wA (oA (h:=bs (h:=wA (?_))))
      first | refine kA_app (ys:=[Nd.v true 1 ⟨_,_,_,_,_,_,[]⟩]) (m3:=pl.length + 1) (hm:=by rw [hll];simp) (hm3:=by simp [hll]) (h:=?_) | refine kA_app (ys:=[Nd.v true 1 ⟨_,_,_,_,_,_,[_]⟩]) (m3:=pl.length + 1) (hm:=by rw [hll];simp) (hm3:=by simp [hll]) (h:=?_) | refine kA_app (ys:=[Nd.v true 1 ⟨_,_,_,_,_,_,[_,_]⟩]) (m3:=pl.length + 1) (hm:=by rw [hll];simp) (hm3:=by simp [hll]) (h:=?_) | refine kA_app (ys:=[Nd.v true 1 ⟨_,_,_,_,_,_,[_,_,_]⟩]) (m3:=pl.length + 1) (hm:=by rw [hll];simp) (hm3:=by simp [hll]) (h:=?_)
      refine wA (oA (h:=a_ (h:=nA (h:=?_))))
     all_goals first
     | (refine aft_normal ?_
        refine wa_ (wc_told (h:=wA (oA (h:=m_ (h:=wA (oA (h:=m_ (h:=wA (oA (h:=le (h:=wA (oA (h:=b_ (h:=wA (?_)))))))))))))))
        refine kA_ix (j:=pl.length) (ha:=by first | (simp [hwl];done) | (simp [hwl2];done)) (hj:=by simp) (hy:=hlast _) (hc:=by rfl) (h:=?_)
        refine wA (?_)
        refine oA (h:=f_ (h1:=k_fieldAddrF rfl rfl (hlast _) rfl (fieldT_ok tys_ok (Y:=tys) rfl) ⟨rfl,rfl⟩) (h:=?_))
        refine wA (?_)
        refine oA (h:=l_ (h1:=k_loadF (tys_ok.zero _ _ rfl) rfl rfl (hlast _) rfl (by simp) rfl rfl ⟨rfl,rfl⟩) (h:=?_))
        refine wA (oA (h:=bE (h:=wA (oA (h:=m_ (h:=?_))))))
        refine gwA (h1:=?_) (h2:=?_)
        rotate_right 1
        focus
         intro c15
         first
         | exact dn c15
         | (have d15 := c15;try simp at d15
            refine goA (h:=goA (h:=goA (h:=?_)))
            )
        rotate_right 1
        focus
         intro c15
         first
         | exact dn c15
         | (have d15 := c15;try simp at d15
            refine gA (h:=wA (oA (h:=m_ (h:=gA (h:=wA (?_))))))
            refine kA_call (hm:=by simp [hll]) (hs:=snap_row (by rfl)) (hc:=e_planS (pl ++ [_]) (by simp;omega) (by intro d hd;rcases List.mem_append.1 hd with hd | hd;exact hok d hd;(simp at hd;subst hd;simp))) (h:=?_)
            refine gA (h:=wA (oA (h:=bE (h:=?_))))
            )
        all_goals
         refine wA (oA (h:=pk (h:=nA (h:=?_))))
        all_goals first
        | (refine aft_normal ?_
           refine c_ (h1:=?_) (h2:=?_)
           rotate_right 1
           focus
            intro c16
            first
            | exact dn c16
            | (have d16 := c16;try simp at d16
               refine wc_skip (?_)
               )
           rotate_right 1
           focus
            intro c16
            first
            | exact dn c16
            | (have d16 := c16;try simp at d16
               refine wc_told (h:=wA (?_))
               refine kA_un (h:=?_);intro L hL
               refine wA (oA (h:=a_ (h:=nA (h:=?_))))
               )
           )
        )
     all_goals refine blk_normal ?_
     all_goals first
     | (refine aft_normal ?_
        refine wc_region (w_ (m_ (h:=w_ (?_))))
        refine b_ (hv:=iv_sub (c:=k - 1) (by omega) (by omega)) (h:=?_)
        refine w_ (a_ (h:=wo_nil (e_ (h:=?_))))
        )
     )
  all_goals first
  | ((refine ⟨pl,a,?_,hi3,by omega⟩;refine congrArg (Prod.mk _) ?_;show normE 1 (some [3]) _ = _;simp [normE]))
  | (exact hstep rfl rfl rfl rfl rfl (by first | decide | (simp;done) | (simp;omega)) rfl (by simp at *;omega) hi3 (by omega) (by omega))
  | (exact hstep rfl rfl rfl ((geta_skip hL (by decide)).trans rfl) rfl (by first | decide | (simp;done) | (simp;omega)) (by simp) (by simp at *;omega) (right_snoc hi3 (by simp at *;omega) (by simp) (by simp at *;assumption)) (by omega) (by omega))
section
variable {call : Call} {id base : Nat} {e : List (Nat × V)} {o : List (Nat × Ob)} {n : Nat} {t : TypeId} {K : V → List (Nat × Ob) → Prop}
theorem apP {args : Array Operand} {ts : Array TypeId} {t1 t2 e1 e2 : TypeId} {y z : V} {ys ws bs : List V} {r1 : Option (List V × St)} {sz : Nat} {o1 : List (Nat × Ob)} {id' q j ver m m2 : Nat} {fs : List Nat} {ob : Ob} {x xu : V} (hx : opsV e args.toList = some [.plc q j fs ver m,y] := by exact rfl) (h1 : ts[0]? = some t1 := by exact rfl) (h2 : ts[1]? = some t2 := by exact rfl) (he1 : cf.elem t1 = some e1 := by exact tys_ok.elem _ _ rfl) (hz : cf.zero e1 = some z := by exact tys_ok.zero _ _ rfl) (he2 : cf.elem t2 = some e2 := by exact tys_ok.elem _ _ rfl)
    (hel : St.elems ⟨[],o,n⟩ base y = r1 := by (simp;rfl)) (hel2 : r1 = some (ys,⟨[],o1,n⟩) := by rfl) (ho : geta o1 q = some ob := by exact rfl) (hv : ob.ver = ver := by rfl) (hg : ob.xs[j]? = some x := by first | assumption | exact set_at (by assumption)) (hgf : getF x fs = some (.lst true sz bs) := by exact rfl) (hl : bs.length = m := by first | rfl | simp) (hsu : setF x fs .und = some xu := by exact rfl)
    (hid : id = id' := by ((try simp);rfl)) (hsz : sz = z.cells := by rfl) (hc : V.cellsAll z.cells ys = true := by (simp [*];try rfl)) (hw : bs ++ ys = ws := by ((try simp);rfl)) (hm : ws.length = m2 := by ((try simp);rfl)) (hlen : m2 < maxV := by (simp <;> omega))
    (h : K (.ref id' 0 m2) ((id',⟨false,false,z.cells,ws,0⟩) :: (q,⟨ob.bx,ob.fx,ob.sz,ob.xs.set j xu,ver + 1⟩) :: o1)) : opK call cf id base e o n t (.call ⟨.builtin .append,args,ts⟩) K := by
  subst hl hv
  have hget : ob.get j fs = some (.lst true sz bs) := by simp only [Ob.get,hg,hgf]
  have hset : ob.set j fs .und = some { ob with xs := ob.xs.set j xu } := by simp only [Ob.set,hg,hsu,mp_some]
  have hat : St.at ⟨[],o1,n⟩ q j fs ob.ver bs.length = some (sz,bs,ob) := by simp only [St.at,ho,hget,if_true]
  have htk : St.take ⟨[],o1,n⟩ q j fs ob.ver bs.length = some (sz,bs,⟨[],(q,⟨ob.bx,ob.fx,ob.sz,ob.xs.set j xu,ob.ver + 1⟩) :: o1,n⟩) := by simp only [St.take,hat,hset,mp_some,puta]
  exact k_appendS hx h1 h2 he1 hz he2 hel hel2 htk rfl hid hsz hc hw hm hlen h
end
end Go.Proofs.Ytbcgenkegnmkhaa.Ev
namespace Go.Proofs.Ytbcgenkegnmkhaa.Ev
open Go
set_option maxRecDepth 100000
set_option linter.unusedSimpArgs false
set_option linter.unusedVariables false
set_option maxHeartbeats 2000000
theorem run_sE {Q : V × List V → Prop} {f : FuncId} {fn : Func} {body : Code} {args : List V} {e : List (Nat × V)} {o : List (Nat × Ob)} {n : Nat} (hf : cf.code f = some fn) (hb : fn.body = some body) (hl : args.length = n) (hl2 : n = fn.params.size + fn.nfree) (he : (bindArgs 0 args).1 = e) (ho : (bindArgs 0 args).2 = o)
    (h : wpC oc cf f body ⟨e,o,n⟩ (fun e s => (e = .normal ∨ e = .ret) ∧ ∃ vs,resL cf s fn.results.toList = some vs ∧ ∃ r,V.fzL vs ⟨[],s.obs,s.nxt⟩ = r ∧ ∃ q,r = some q ∧ ∃ os,outsV 0 args q.2 = some os ∧ Q (oneV q.1,os))) : ∃ r,runE oc cf f args = some r ∧ Q r := by
  obtain ⟨r,h1,h2,vs,h3,q,h4,u,h5,os,h6,h7⟩ := h
  exact ⟨_,run_s hf hb hl hl2 he ho ⟨r,h1,h2,vs,h3,q,h4,u,h5,os,h6,rfl⟩,h7⟩
theorem right1 {v : Int} (h : v = 1 ∨ v = 2) : rightP [⟨1,0,0,v,0,0,[]⟩] := by
  refine ⟨by simp,by simp,by simp,?_⟩
  rcases h with rfl | rfl <;> rfl
theorem right2 {v u : Int} (h : v = 1 ∨ v = 2) (h2 : u = 1 ∨ u = 2) : rightP [⟨1,0,0,v,0,0,[]⟩,⟨1,0,0,u,0,0,[]⟩] := by
  refine ⟨by simp,by simp,by simp,?_⟩
  rcases h with rfl | rfl <;> rcases h2 with rfl | rfl <;> rfl
def planP (l : List Nd) : Prop := l.length ≤ 9 ∧ ∀ d ∈ l,d.cells.length ≤ 4
theorem planP.ok {l : List Nd} (h : planP l) : okN l := fun d hd => by have := h.2 d hd;omega
theorem e_drawE (c : List Int) (a : Nat) (hc : okS c) (ha : a < 500000000) : ∃ r,oc.call 71 [.iop (srcV c a)] = some r ∧ (∃ (pl : List Nd) (a' : Nat),r = (.lst true 7 (nds true 1 pl),[srcV c a']) ∧ 1 ≤ pl.length ∧ pl.length ≤ 8 ∧ (∀ d ∈ pl,d.cells.length ≤ 3) ∧ a' ≤ a + 300) := by
  refine fun_sE (Q:=fun r => ∃ (pl : List Nd) (a' : Nat),r = (.lst true 7 (nds true 1 pl),[srcV c a']) ∧ 1 ≤ pl.length ∧ pl.length ≤ 8 ∧ (∀ d ∈ pl,d.cells.length ≤ 3) ∧ a' ≤ a + 300) rfl cd71 rfl rfl rfl (by simp;rfl) (by simp;rfl) ?_
  have x1 := nxtV_in (c:=c) (a:=a) (n:=2) (by omega)
  obtain ⟨v1,hv1⟩ : ∃ v : Int,1 + nxtV c a 2 = v := ⟨_,rfl⟩
  have x2 := nxtV_in (c:=c) (a:=a + 2) (n:=2) (by omega)
  obtain ⟨v2,hv2⟩ : ∃ v : Int,1 + nxtV c (a + 2) 2 = v := ⟨_,rfl⟩
  have x3 := nxtV_in (c:=c) (a:=a + 2) (n:=6) (by omega)
  have x4 := nxtV_in (c:=c) (a:=a + 3) (n:=6) (by omega)
  obtain ⟨k1,hk1⟩ : ∃ k : Nat,nxtV c (a + 2) 6 = (k : Int) := ⟨(nxtV c (a + 2) 6).toNat,by omega⟩
  obtain ⟨k2,hk2⟩ : ∃ k : Nat,nxtV c (a + 3) 6 = (k : Int) := ⟨(nxtV c (a + 3) 6).toNat,by omega⟩
  have hn1 := e_next c (a + 2) 6 hc (by omega) (by omega)
  have hn2 := e_next c (a + 3) 6 hc (by omega) (by omega)
  rw [hk1] at hn1
  rw [hk2] at hn2
  refine wa_ (wc_region (w_ (aN (h:=wo_nil (e_ (h:=aft_normal (wa_ (wc_region (w_ (m_ (h:=w_ (cP (hc:=e_next c a 2 hc (by omega) (by omega)) (h:=w_ (?_))))))))))))))
  refine b_ (hv:=iv_addI hv1 (by omega) (by omega)) (h:=?_)
  refine w_ (bd (h:=w_ (bs (h:=w_ (a_ (h:=wo_nil (e_ (h:=aft_normal (wa_ (wa_ (wc_region (w_ (m_ (h:=w_ (cP (hc:=e_chance c (a + 1) 2 hc (by omega) (by omega)) (h:=wo_nil (e_ (h:=aft_normal (?_)))))))))))))))))))
  refine c_ (h1:=?_) (h2:=?_)
  rotate_right 1
  focus
   intro c1
   refine wc_skip (?_)
  rotate_right 1
  focus
   intro c1
   refine wc_region (w_ (m_ (h:=w_ (m_ (h:=w_ (cP (hc:=e_next c (a + 2) 2 hc (by omega) (by omega)) (h:=w_ (?_))))))))
   refine b_ (hv:=iv_addI hv2 (by omega) (by omega)) (h:=?_)
   refine w_ (bd (h:=w_ (bs (h:=w_ (ap (h:=w_ (a_ (h:=wo_nil (e_ (h:=?_))))))))))
  all_goals first
  | (refine aft_normal ?_
     refine wa_ (wa_ (wc_region (w_ (m_ (h:=?_)))))
     first | refine w_ (cP (hc:=hn1) (h:=?_)) | refine w_ (cP (hc:=hn2) (h:=?_))
     refine w_ (a_ (h:=wo_nil (e_ (h:=aft_normal (wc_block (?_))))))
     refine wc_loopE (by first | exact l_drawE c hc (k1,a + 3,[_]) ⟨by simp only;omega,by simp only;omega,right1 (v:=v1) (by omega)⟩ _ (norm_draw (by rfl) (by rfl) (by rfl) (by rfl) (by rfl) (by simp) (by first | decide | (simp;done) | (simp;omega))) | exact l_drawE c hc (k2,a + 4,[_,_]) ⟨by simp only;omega,by simp only;omega,right2 (v:=v1) (u:=v2) (by omega) (by omega)⟩ _ (norm_draw (by rfl) (by rfl) (by rfl) (by rfl) (by rfl) (by simp) (by first | decide | (simp;done) | (simp;omega)))) ?_
     rintro _ _ ⟨pl2,a2,⟨⟩,⟨g1,g2,g3,g4⟩,h2⟩
     refine blk_exit (aft_normal (wa_ (wc_region (w_ (m_ (h:=w_ (m_ (h:=w_ (le (h:=w_ (b_ (h:=w_ (bd (h:=w_ (bs (h:=w_ (ap (h:=w_ (a_ (h:=?_))))))))))))))))))))
     refine wo_nil (e_ (h:=aft_normal (wa_ (wc_region (w_ (m_ (h:=w_ (a_ (h:=wo_nil (e_ (h:=aft_normal (wc_ret (?_)))))))))))))
     )
  all_goals (refine fin_E (Q:=fun r => ∃ (pl : List Nd) (a' : Nat),r = (.lst true 7 (nds true 1 pl),[srcV c a']) ∧ 1 ≤ pl.length ∧ pl.length ≤ 8 ∧ (∀ d ∈ pl,d.cells.length ≤ 3) ∧ a' ≤ a + 300) (hr:=(res_tmp rfl res_nil)) (h:=?_);(focus (simp at h2;refine ⟨pl2 ++ [⟨12,IntKind.i64.wrap ((pl2.length : Int) - 1),0,0,0,0,[]⟩],a2,?_,by simp,by simp;omega,?_,by omega⟩;(focus (simp;rw [List.take_of_length_le (by simp)];simp [nds,Nd.v]));(intro d hd;rcases List.mem_append.1 hd with hd | hd;(focus (exact g3 d hd));(simp at hd;subst hd;simp)))))
theorem e_bentE0 (c : List Int) (a : Nat) (hc : okS c) (ha : a < 400000000) : ∃ r,runE oc cf 32 [.iop (srcV c a)] = some r ∧ (∃ (pl : List Nd) (a' : Nat),r = (.lst true 7 (nds true 1 pl),[srcV c a']) ∧ planP pl ∧ a' ≤ a + 400) := by
  refine run_sE (Q:=fun r => ∃ (pl : List Nd) (a' : Nat),r = (.lst true 7 (nds true 1 pl),[srcV c a']) ∧ planP pl ∧ a' ≤ a + 400) cd32 rfl rfl rfl (by simp;rfl) (by simp;rfl) ?_
  obtain ⟨_,hd,pl,a1,rfl,g1,g2,g3,ha1⟩ := e_drawE c a hc (by omega)
  have x1 := nxtV_in (c:=c) (a:=a1) (n:=pl.length) (by omega)
  obtain ⟨i,hi⟩ : ∃ i : Nat,nxtV c a1 pl.length = (i : Int) := ⟨(nxtV c a1 pl.length).toNat,by omega⟩
  have hn1 := e_next c a1 pl.length hc (by omega) (by omega)
  rw [hi] at hn1 x1
  have hil : i < pl.length := by omega
  have hn2 := e_next c (a1 + 1) 24 hc (by omega) (by omega)
  have hn3 := e_next c (a1 + 2) 13 hc (by omega) (by omega)
  have hx0 := nds_get (t:=true) (s:=1) (show pl[i]? = some pl[i] by simp [hil])
  obtain ⟨d,hdd⟩ : ∃ d,pl[i] = d := ⟨_,rfl⟩
  have hdm : d.cells.length ≤ 3 := by rw [← hdd];exact g3 _ (List.getElem_mem _)
  rw [hdd] at hx0
  obtain ⟨d1,d2,d3,d4,d5,d6,d7⟩ := d
  simp only at hdm
  have hset : ∀ q : Nd,q.cells.length ≤ 4 → planP (pl.set i q) := fun q hq => ⟨by simp;omega,fun x hx => by
    rcases List.mem_or_eq_of_mem_set hx with hx | rfl
    · have := g3 x hx;omega
    · exact hq⟩
  have hp4 : oc.call.noI.c 41 [.iop (srcV c (a1 + 2)),.lst true 1 (ints [0,-1,4])] = some (.int .i64 (at0 [0,-1,4] (nxtV c (a1 + 2) (3 : Nat))),[srcV c (a1 + 2 + 1)]) := e_pick c (a1 + 2) [0,-1,4] hc (by omega) (by simp) (by simp)
  have hp9 := e_pick c (a1 + 2) [0,9] hc (by omega) (by simp) (by simp)
  obtain ⟨m9,h9,h9'⟩ : ∃ m : Nat,at0 [0,9] (nxtV c (a1 + 2) ([0,9] : List Int).length) = (m : Int) ∧ m ≤ 9 := by
    have := nxtV_in (c:=c) (a:=a1 + 2) (n:=(([0,9] : List Int).length : Nat)) (by simp)
    simp at this
    rcases (by omega : nxtV c (a1 + 2) 2 = 0 ∨ nxtV c (a1 + 2) 2 = 1) with h | h
    · exact ⟨0,by simp [h,at0],by omega⟩
    · exact ⟨9,by simp [h,at0],by omega⟩
  rw [h9] at hp9
  refine wa_ (wc_region (w_ (aN (h:=wo_nil (e_ (h:=aft_normal (wa_ (wc_region (w_ (m_ (h:=w_ (cP (hc:=hd) (h:=w_ (a_ (h:=wo_nil (e_ (h:=aft_normal (?_))))))))))))))))))
  refine wa_ (wc_region (w_ (m_ (h:=w_ (m_ (h:=w_ (le (h:=w_ (cP (hc:=hn1) (h:=w_ (a_ (h:=wo_nil (e_ (h:=aft_normal (wa_ (wa_ (wc_region (?_))))))))))))))))))
  refine w_ (m_ (h:=w_ (cP (hc:=hn2) (h:=wo_nil (e_ (h:=aft_normal (wc_block (wa_ (wc_region (w_ (bE (h:=w_ (a_ (h:=wo_nil (e_ (h:=aft_normal (?_)))))))))))))))))
  refine c_ (h1:=?_) (h2:=?_)
  rotate_right 1
  focus
   intro c1
   first
   | exact dn c1
   | (have d1 := c1;try simp at d1
      refine wa_ (wc_region (w_ (bE (h:=w_ (a_ (h:=wo_nil (e_ (h:=aft_normal (?_)))))))))
      refine c_ (h1:=?_) (h2:=?_)
      rotate_right 1
      focus
       intro c2
       first
       | exact dn c2
       | (have d2 := c2;try simp at d2
          refine wa_ (wc_region (w_ (bE (h:=w_ (a_ (h:=wo_nil (e_ (h:=aft_normal (?_)))))))))
          refine c_ (h1:=?_) (h2:=?_)
          rotate_right 1
          focus
           intro c3
           first
           | exact dn c3
           | (have d3 := c3;try simp at d3
              refine wa_ (wc_region (w_ (bE (h:=w_ (a_ (h:=wo_nil (e_ (h:=aft_normal (?_)))))))))
              refine c_ (h1:=?_) (h2:=?_)
              rotate_right 1
              focus
               intro c4
               first
               | exact dn c4
               | (have d4 := c4;try simp at d4
                  refine wa_ (wc_region (w_ (bE (h:=w_ (a_ (h:=wo_nil (e_ (h:=aft_normal (?_)))))))))
                  refine c_ (h1:=?_) (h2:=?_)
                  rotate_right 1
                  focus
                   intro c5
                   first
                   | exact dn c5
                   | (have d5 := c5;try simp at d5
                      refine wa_ (wc_region (w_ (bE (h:=w_ (a_ (h:=wo_nil (e_ (h:=aft_normal (?_)))))))))
                      refine c_ (h1:=?_) (h2:=?_)
                      rotate_right 1
                      focus
                       intro c6
                       first
                       | exact dn c6
                       | (have d6 := c6;try simp at d6
                          refine wa_ (wc_region (w_ (bE (h:=w_ (a_ (h:=wo_nil (e_ (h:=aft_normal (?_)))))))))
                          refine c_ (h1:=?_) (h2:=?_)
                          rotate_right 1
                          focus
                           intro c7
                           first
                           | exact dn c7
                           | (have d7 := c7;try simp at d7
                              refine wa_ (wc_region (w_ (bE (h:=w_ (a_ (h:=wo_nil (e_ (h:=aft_normal (?_)))))))))
                              refine c_ (h1:=?_) (h2:=?_)
                              rotate_right 1
                              focus
                               intro c8
                               first
                               | exact dn c8
                               | (have d8 := c8;try simp at d8
                                  refine wa_ (wc_region (w_ (bE (h:=w_ (a_ (h:=wo_nil (e_ (h:=aft_normal (?_)))))))))
                                  refine c_ (h1:=?_) (h2:=?_)
                                  rotate_right 1
                                  focus
                                   intro c9
                                   first
                                   | exact dn c9
                                   | (have d9 := c9;try simp at d9
                                      refine wc_skip (?_)
                                      )
                                  rotate_right 1
                                  focus
                                   intro c9
                                   first
                                   | exact dn c9
                                   | (have d9 := c9;try simp at d9
                                      refine wc_region (w_ (m_ (h:=w_ (bs (h:=w_ (cPT (hc:=hp9) (h:=w_ (mk (h:=w_ (a_ (h:=wo_nil (e_ (h:=?_)))))))))))))
                                      )
                                  )
                              rotate_right 1
                              focus
                               intro c8
                               first
                               | exact dn c8
                               | (have d8 := c8;try simp at d8
                                  refine wc_region (w_ (m_ (h:=w_ (m_ (h:=w_ (le (h:=w_ (b_ (h:=w_ (bd (h:=w_ (bs (h:=w_ (ap (h:=w_ (a_ (h:=wo_nil (e_ (h:=?_)))))))))))))))))))
                                  )
                              )
                          rotate_right 1
                          focus
                           intro c7
                           first
                           | exact dn c7
                           | (have d7 := c7;try simp at d7
                              refine wc_region (w_ (m_ (h:=w_ (m_ (h:=w_ (m_ (h:=w_ (bs (h:=w_ (cPT (hc:=e_pick c (a1 + 2) [1000000000,1000000001,-1] hc (by omega) (by simp) (by simp)) (h:=w_ (x_ (h:=w_ (f_ (h:=w0 (s_ (h:=wo_nil (e_ (h:=?_)))))))))))))))))))
                              )
                          )
                      rotate_right 1
                      focus
                       intro c6
                       first
                       | exact dn c6
                       | (have d6 := c6;try simp at d6
                          refine wc_region (w_ (m_ (h:=w_ (m_ (h:=w_ (m_ (h:=w_ (bs (h:=w_ (cPT (hc:=e_pick c (a1 + 2) [1,3] hc (by omega) (by simp) (by simp)) (h:=w_ (x_ (h:=w_ (f_ (h:=w0 (s_ (h:=wo_nil (e_ (h:=?_)))))))))))))))))))
                          )
                      )
                  rotate_right 1
                  focus
                   intro c5
                   first
                   | exact dn c5
                   | (have d5 := c5;try simp at d5
                      refine wc_draw (y_ (m_ (h:=ax_ (h:=y_ (m_ (h:=ax_ (h:=y_ (m_ (h:=ax_ (h:=y_ (m_ (h:=ax_ (h:=y_ (x_ (h:=ax_ (h:=y_ (f_ (h:=ax_ (h:=y_ (l_ (h:=ax_ (h:=y_ (m_ (h:=ax_ (h:=y_ (bs (h:=ax_ (h:=y_ (cPT (hc:=hp4) (h:=ax_ (h:=y_ (bs (h:=ax_ (h:=?_))))))))))))))))))))))))))))))))))
                      refine y_ (?_)
                      refine apP (h:=?_)
                      refine ax_ (h:=y_ (x_ (h:=ax_ (h:=y_ (f_ (h:=ax_ (h:=y0 (s_ (h:=ax_ (h:=wo_nil (ed (h:=?_))))))))))))
                      )
                  )
              rotate_right 1
              focus
               intro c4
               first
               | exact dn c4
               | (have d4 := c4;try simp at d4
                  refine wc_region (w_ (m_ (h:=w_ (m_ (h:=w_ (m_ (h:=w_ (bs (h:=w_ (cPT (hc:=e_pick c (a1 + 2) [-1,0,4,3,1] hc (by omega) (by simp) (by simp)) (h:=w_ (x_ (h:=w_ (f_ (h:=w0 (s_ (h:=wo_nil (e_ (h:=?_)))))))))))))))))))
                  )
              )
          rotate_right 1
          focus
           intro c3
           first
           | exact dn c3
           | (have d3 := c3;try simp at d3
              refine wc_region (w_ (m_ (h:=w_ (m_ (h:=w_ (m_ (h:=w_ (m_ (h:=w_ (bs (h:=w_ (cPT (hc:=e_pick c (a1 + 2) [-1,i,1] hc (by omega) (by simp) (by simp)) (h:=w_ (x_ (h:=w_ (f_ (h:=w0 (s_ (h:=wo_nil (e_ (h:=?_)))))))))))))))))))))
              )
          )
      rotate_right 1
      focus
       intro c2
       first
       | exact dn c2
       | (have d2 := c2;try simp at d2
          refine wc_region (w_ (m_ (h:=w_ (m_ (h:=w_ (m_ (h:=w_ (m_ (h:=w_ (bs (h:=w_ (cPT (hc:=e_pick c (a1 + 2) [-1,i,0,4611686018427387904] hc (by omega) (by simp) (by simp)) (h:=w_ (x_ (h:=w_ (f_ (h:=w0 (s_ (h:=wo_nil (e_ (h:=?_)))))))))))))))))))))
          )
      )
  rotate_right 1
  focus
   intro c1
   first
   | exact dn c1
   | (have d1 := c1;try simp at d1
      refine wc_region (w_ (m_ (h:=w_ (m_ (h:=w_ (m_ (h:=w_ (m_ (h:=w_ (cP (hc:=hn3) (h:=w_ (bs (h:=w_ (cPT (hc:=e_pick c (a1 + 3) [0,13,nxtV c (a1 + 2) 13] hc (by omega) (by simp) (by simp)) (h:=w_ (x_ (h:=w_ (f_ (h:=w0 (s_ (h:=wo_nil (e_ (h:=?_)))))))))))))))))))))))
      )
  all_goals refine blk_normal ?_
  all_goals first
  | (refine aft_normal ?_
     refine wa_ (wc_region (w_ (m_ (h:=w_ (a_ (h:=wo_nil (e_ (h:=aft_normal (wc_ret (?_))))))))))
     )
  all_goals (refine fin_E (Q:=fun r => ∃ (pl : List Nd) (a' : Nat),r = (.lst true 7 (nds true 1 pl),[srcV c a']) ∧ planP pl ∧ a' ≤ a + 400) (hr:=(res_tmp rfl res_nil)) (h:=?_);(focus (first | exact ⟨pl,_,rfl,⟨by omega,fun d hd => by have := g3 d hd;omega⟩,by omega⟩ | (rw [List.take_of_length_le (by simp)];exact ⟨_,_,rfl,hset _ (by first | exact Nat.le_succ_of_le hdm | (simp;omega)),by omega⟩) | exact ⟨pl ++ [⟨5,IntKind.i64.wrap ((pl.length : Int) - 1),0,0,0,0,[]⟩],a1 + 1 + 1,by (rw [List.take_of_length_le (by simp)];simp [nds,Nd.v,oneV];done),⟨by simp;omega,fun d hd => by (rcases List.mem_append.1 hd with hd | hd;(focus (have:=g3 d hd;omega));(simp at hd;subst hd;simp))⟩,by omega⟩ | exact ⟨List.replicate m9 ⟨0,0,0,0,0,0,[]⟩,a1 + 2 + 1,by (simp [nds,Nd.v,oneV];done),⟨by simp;omega,fun d hd => by (have:=(List.mem_replicate.1 hd).2;subst this;simp)⟩,by omega⟩)))
theorem e_bentE (c : List Int) (a : Nat) (hc : okS c) (ha : a < 400000000) : ∃ (pl : List Nd) (a' : Nat),oc.call 32 [.iop (srcV c a)] = some (.lst false 0 (nds false 0 pl),[srcV c a']) ∧ planP pl ∧ a' ≤ a + 400 := by
  obtain ⟨_,h,pl,a',rfl,hp,h2⟩ := e_bentE0 c a hc ha
  refine ⟨pl,a',?_,hp,h2⟩
  have := full_s (by rfl) (by rfl) (by rfl) h
  rw [this]
  simp [V.full]
theorem leads_self {pl : List Nd} {n : Nat} {a : Int} : leadsF pl a (n + 1) a = true := by unfold leadsF;rw [if_pos rfl]
theorem leads_even {pl : List Nd} {n : Nat} {a : Int} (h : a.tmod 2 = 0) : leadsF pl (a + 1) (n + 2) a = true := by unfold leadsF;rw [if_neg (by omega),if_pos h];exact leads_self
theorem leads_more {pl : List Nd} {to : Int} : ∀ (n m : Nat) (a : Int),n ≤ m → leadsF pl to n a = true → leadsF pl to m a = true
  | 0,_,_,_,h => by simp [leadsF] at h
  | n + 1,m,a,hm,h => by
    obtain ⟨m,rfl⟩ : ∃ k,m = k + 1 := ⟨m - 1,by omega⟩
    unfold leadsF at h ⊢
    split
    · rfl
    · rename_i hne
      rw [if_neg hne] at h
      split
      · rename_i he
        rw [if_pos he] at h
        exact leads_more n m _ (by omega) h
      · rename_i he
        rw [if_neg he] at h
        obtain ⟨x,hx,h2⟩ := List.any_eq_true.1 h
        exact List.any_eq_true.2 ⟨x,hx,leads_more n m _ (by omega) h2⟩
theorem leads_less {pl : List Nd} (W : Wf pl) {to : Int} (ht : to < 2 * pl.length) : ∀ (n k : Nat) (a : Int),0 ≤ a → 2 * pl.length - a ≤ k → leadsF pl to n a = true → leadsF pl to k a = true
  | 0,_,_,_,_,h => by simp [leadsF] at h
  | n + 1,k,a,h0,hk,h => by
    by_cases hlt : to < a
    · rw [leads_low W (n + 1) a h0 hlt] at h;cases h
    · obtain ⟨k,rfl⟩ : ∃ j,k = j + 1 := ⟨k - 1,by omega⟩
      unfold leadsF at h ⊢
      split
      · rfl
      · rename_i hne
        rw [if_neg hne] at h
        split
        · rename_i he
          rw [if_pos he] at h
          exact leads_less W ht n k _ (by omega) (by omega) h
        · rename_i he
          rw [if_neg he] at h
          obtain ⟨x,hx,h2⟩ := List.any_eq_true.1 h
          have := rd_gt W hx
          exact List.any_eq_true.2 ⟨x,hx,leads_less W ht n k _ (by omega) (by omega) h2⟩
theorem leads_trans {pl : List Nd} {b c : Int} : ∀ (n m : Nat) (a : Int),leadsF pl b n a = true → leadsF pl c m b = true → leadsF pl c (n + m) a = true
  | 0,_,_,h,_ => by simp [leadsF] at h
  | n + 1,m,a,h,h2 => by
    by_cases hb : a = b
    · subst hb;exact leads_more m _ a (by omega) h2
    · rw [show n + 1 + m = (n + m) + 1 by omega]
      unfold leadsF at h ⊢
      rw [if_neg hb] at h
      split
      · rfl
      · split
        · rename_i he
          rw [if_pos he] at h
          exact leads_trans n m _ h h2
        · rename_i he
          rw [if_neg he] at h
          obtain ⟨x,hx,h3⟩ := List.any_eq_true.1 h
          exact List.any_eq_true.2 ⟨x,hx,leads_trans n m _ h3 h2⟩
theorem isPl_iff {pl : List Nd} {a : Int} : isPl pl a = true ↔ 0 ≤ a ∧ a < 2 * pl.length := by simp [isPl,inI];omega
theorem leadsN_iff {pl : List Nd} (hr : (lookN pl).2 = 0) {a b : Int} : leadsN pl a b = true ↔ (0 ≤ a ∧ a < 2 * pl.length) ∧ (0 ≤ b ∧ b < 2 * pl.length) ∧ leadsF pl b (2 * pl.length) a = true := by
  simp only [leadsN,hr,decide_true,Bool.true_and,Bool.and_eq_true,isPl_iff]
theorem leadsN_self {pl : List Nd} (hr : (lookN pl).2 = 0) {a : Int} (h0 : 0 ≤ a) (h : a < 2 * pl.length) : leadsN pl a a = true := by
  rw [leadsN_iff hr]
  obtain ⟨n,hn⟩ : ∃ n,2 * pl.length = n + 1 := ⟨2 * pl.length - 1,by omega⟩
  exact ⟨⟨h0,h⟩,⟨h0,h⟩,by rw [hn];exact leads_self⟩
theorem leadsN_even {pl : List Nd} (hr : (lookN pl).2 = 0) {a : Int} (h0 : 0 ≤ a) (h : a < 2 * pl.length) (he : a % 2 = 0) : leadsN pl a (a + 1) = true := by
  rw [leadsN_iff hr]
  obtain ⟨n,hn⟩ : ∃ n,2 * pl.length = n + 2 := ⟨2 * pl.length - 2,by omega⟩
  exact ⟨⟨h0,h⟩,⟨by omega,by omega⟩,by rw [hn];exact leads_even (by rw [Int.tmod_eq_emod_of_nonneg h0];exact he)⟩
theorem leadsN_le {pl : List Nd} {a b : Int} (h : leadsN pl a b = true) : a ≤ b := by
  have hr : (lookN pl).2 = 0 := by simp only [leadsN,Bool.and_eq_true,decide_eq_true_eq] at h;exact h.1
  have h2 := (leadsN_iff hr).1 h
  by_cases hb : a ≤ b
  · exact hb
  · have := leads_low (look_wf hr) (to:=b) (2 * pl.length) a h2.1.1 (by omega)
    rw [this] at h2;simp at h2
theorem leadsN_trans {pl : List Nd} {a b c : Int} (h : leadsN pl a b = true) (h2 : leadsN pl b c = true) : leadsN pl a c = true := by
  have hr : (lookN pl).2 = 0 := by simp only [leadsN,Bool.and_eq_true,decide_eq_true_eq] at h;exact h.1
  have e1 := (leadsN_iff hr).1 h
  have e2 := (leadsN_iff hr).1 h2
  exact (leadsN_iff hr).2 ⟨e1.1,e2.2.1,leads_less (look_wf hr) e2.2.1.2 _ _ a e1.1.1 (by omega) (leads_trans _ _ a e1.2.2 e2.2.2)⟩
theorem e_lwBig (c : List Int) (h : c.length < 400000000000000) : oc.call 6 [.lst false 0 (bys c)] = some (.bool (decide (1048576 < c.length)),[]) := by
 refine fun_s rfl cd6 rfl rfl rfl (by simp;rfl) (by simp;rfl) ?_
 refine wa_ (wc_region (w_ (a_ (h:=wo_nil (e_ (h:=aft_normal (wa_ (wc_region (w_ (m_ (h:=w_ (le (h:=w_ (b_ (h:=w_ (a_ (h:=wo_nil (e_ (h:=?_)))))))))))))))))))
 refine aft_normal (wc_ret (?_))
 all_goals (refine fin_ (hr:=(res_tmp rfl res_nil)) (h:=?_);(focus (simp;omega)))
theorem e_l1Max (a b : Int) : oc.call 73 [.int .i64 a,.int .i64 b] = some (.int .i64 (max a b),[]) := by
 refine fun_s rfl cd73 rfl rfl rfl (by simp;rfl) (by simp;rfl) ?_
 refine wa_ (wc_region (w_ (a_ (h:=wo_nil (e_ (h:=aft_normal (wa_ (wa_ (wc_region (w_ (m_ (h:=w_ (m_ (h:=w_ (b_ (h:=wo_nil (e_ (h:=?_))))))))))))))))))
 refine aft_normal (?_)
 refine c_ (h1:=?_) (h2:=?_)
 rotate_right 1
 focus
  intro c1
  first
  | exact dn c1
  | (
   have d1 := c1;try simp at d1
   refine wc_skip (?_)
   )
 rotate_right 1
 focus
  intro c1
  first
  | exact dn c1
  | (
   have d1 := c1;try simp at d1
   refine wa_ (wc_region (w_ (m_ (h:=w_ (a_ (h:=wo_nil (e_ (h:=aft_normal (wc_ret (?_))))))))))
   )
 all_goals first
 | refine aft_ret ?_
 | (
  refine aft_normal ?_
  refine wa_ (wc_region (w_ (m_ (h:=w_ (a_ (h:=wo_nil (e_ (h:=aft_normal (wc_ret (?_))))))))))
  )
 all_goals (refine fin_ (hr:=(res_tmp rfl res_nil)) (h:=?_);(focus (simp at *;omega)))
theorem e_placeD (c : List Int) (a : Nat) (pl : List Nd) (hc : okS c) (ha : a < 800000000) (hp : pl.length < 1000000) : ∃ r,oc.call 33 [.iop (srcV c a),.lst false 0 (nds false 0 pl)] = some r ∧ (∃ (p : Int) (a' : Nat),r = (.int .i64 p,[srcV c a']) ∧ a' ≤ a + 10) := by
  refine fun_sE (Q:=fun r => ∃ (p : Int) (a' : Nat),r = (.int .i64 p,[srcV c a']) ∧ a' ≤ a + 10) rfl cd33 rfl rfl rfl (by simp;rfl) (by simp;rfl) ?_
  have hm : (max 1 (2 * (pl.length : Int))) < 4000000 := by omega
  refine wa_ (wc_region (w_ (a_ (h:=wo_nil (e_ (h:=aft_normal (wa_ (wc_region (w_ (m_ (h:=w_ (le (h:=w_ (?_))))))))))))))
  refine b_ (hv:=iv_mulI (c:=2 * (pl.length : Int)) (by simp) (by omega) (by omega)) (h:=?_)
  refine w_ (ca (hc:=e_l1Max 1 (2 * (pl.length : Int))) (h:=w_ (a_ (h:=wo_nil (e_ (h:=aft_normal (wa_ (wc_region (w_ (m_ (h:=w_ (m_ (h:=w_ (m_ (h:=w_ (cP (hc:=e_next c a (max 1 (2 * (pl.length : Int))) hc (by omega) (by omega)) (h:=w_ (m_ (h:=w_ (m_ (h:=?_)))))))))))))))))))))
  refine w_ (cP (hc:=e_next c (a + 1) (max 1 (2 * (pl.length : Int))) hc (by omega) (by omega)) (h:=w_ (m_ (h:=w_ (?_)))))
  refine b_ (hv:=iv_subI rfl (by omega) (by omega)) (h:=?_)
  refine w_ (m_ (h:=w_ (?_)))
  refine b_ (hv:=iv_subI rfl (by omega) (by omega)) (h:=?_)
  refine w_ (m_ (h:=w_ (bs (h:=w_ (cPT (hc:=e_pick c (a + 2) [nxtV c a (max 1 (2 * (pl.length : Int))),nxtV c (a + 1) (max 1 (2 * (pl.length : Int))),max 1 (2 * (pl.length : Int)) - 2,max 1 (2 * (pl.length : Int)) - 1,max 1 (2 * (pl.length : Int)),-1] hc (by omega) (by simp) (by simp)) (h:=w_ (a_ (h:=wo_nil (e_ (h:=aft_normal (wc_ret (?_))))))))))))
  all_goals (refine fin_E (Q:=fun r => ∃ (p : Int) (a' : Nat),r = (.int .i64 p,[srcV c a']) ∧ a' ≤ a + 10) (hr:=(res_tmp rfl res_nil)) (h:=?_);(focus (exact ⟨_,_,rfl,by omega⟩)))
theorem e_drawLd (c : List Int) (hc : okS c) : ∃ r,oc.call 7 [.lst false 0 (bys c)] = some r ∧ (∃ (pl : List Nd) (p q : Int),r = (.tup [.lst false 0 (nds false 0 pl),.int .i64 p,.int .i64 q],[]) ∧ planP pl) := by
 refine fun_sE (Q:=fun r => ∃ (pl : List Nd) (p q : Int),r = (.tup [.lst false 0 (nds false 0 pl),.int .i64 p,.int .i64 q],[]) ∧ planP pl) rfl cd7 rfl rfl rfl (by simp;rfl) (by simp;rfl) ?_
 obtain ⟨pl,a1,hb,hp,h1⟩ := e_bentE c 0 hc (by omega)
 have hpl := hp.1
 obtain ⟨_,hd1,p1,a2,rfl,h2⟩ := e_placeD c a1 pl hc (by omega) (by omega)
 obtain ⟨_,hd2,p2,a3,rfl,h3⟩ := e_placeD c a2 pl hc (by omega) (by omega)
 refine wa_ (wc_region (w_ (aN (h:=w_ (a_ (h:=w_ (a_ (h:=wo_nil (e_ (h:=aft_normal (wa_ (wc_region (w_ (m_ (h:=?_)))))))))))))))
 refine iE (h:=?_)
 apply Exists.intro
 apply Exists.intro
 apply Exists.intro
 apply And.intro
 focus
  apply inl_s (by rw [cf_pl];rfl) cd31 rfl rfl (by simp;rfl)
  refine wa_ (wc_region (w_ (aP (h:=wo_nil (e_ (h:=aft_normal (wa_ (wc_region (w_ (m_ (h:=w_ (bd (h:=w_ (bx (h:=w_ (a_ (h:=wo_nil (e_ (h:=?_)))))))))))))))))))
  refine aft_normal (wc_ret (?_))
  exact ⟨by simp,_,rfl,rfl,rfl⟩
 refine ⟨_,(by (simp;rfl)),?_⟩
 refine w_ (a_ (h:=wo_nil (e_ (h:=aft_normal (wa_ (wc_region (w_ (m_ (h:=w_ (cP (hc:=hb) (h:=w_ (a_ (h:=wo_nil (e_ (h:=aft_normal (wa_ (wc_region (?_))))))))))))))))))
 refine w_ (m_ (h:=w_ (m_ (h:=w_ (cP (hc:=hd1) (h:=w_ (a_ (h:=wo_nil (e_ (h:=aft_normal (wa_ (wc_region (w_ (m_ (h:=w_ (m_ (h:=w_ (m_ (h:=w_ (m_ (h:=?_)))))))))))))))))))))
 refine w_ (cP (hc:=hd2) (h:=w_ (a_ (h:=w_ (a_ (h:=w_ (a_ (h:=wo_nil (e_ (h:=aft_normal (wc_ret (?_))))))))))))
 all_goals (refine fin_E (Q:=fun r => ∃ (pl : List Nd) (p q : Int),r = (.tup [.lst false 0 (nds false 0 pl),.int .i64 p,.int .i64 q],[]) ∧ planP pl) (hr:=(res_tmp rfl (res_tmp rfl (res_tmp rfl res_nil)))) (h:=?_);(focus (exact ⟨pl,p1,p2,by simp,hp⟩)))
end Go.Proofs.Ytbcgenkegnmkhaa.Ev
namespace Go.Proofs.Ytbcgenkegnmkhaa.Ev
open Go
set_option maxRecDepth 100000
set_option linter.unusedSimpArgs false
set_option linter.unusedVariables false
set_option maxHeartbeats 2000000
theorem l_ldC (pl : List Nd) (hp : planP pl) (a b : Nat) (hab : leadsN pl a b = true) (ha : a < 2 * pl.length) (hb : b < 2 * pl.length) : ∀ k : Nat,(k ≤ 2 * pl.length) → ∀ s,normE 1 (some [3,6,7,8,9]) s = ⟨[(3,.lst false 0 (nds false 0 pl)),(6,.int .i64 ((2 * pl.length : Nat) : Int)),(7,.int .i64 a),(8,.int .i64 b),(9,.int .i64 k)],[],1⟩ →
 oc.loop 3 19 s = some (.exit 4,⟨[(3,.lst false 0 (nds false 0 pl)),(6,.int .i64 ((2 * pl.length : Nat) : Int)),(7,.int .i64 a),(8,.int .i64 b)],[],1⟩) := by
 refine loop_ind (σ:=Nat) (fun k => 2 * pl.length - k) _ (fun k => ⟨[(3,.lst false 0 (nds false 0 pl)),(6,.int .i64 ((2 * pl.length : Nat) : Int)),(7,.int .i64 a),(8,.int .i64 b),(9,.int .i64 k)],[],1⟩) _ ?_
 intro k hi ih s hs
 refine loop_s cd3 rfl rfl hs ?_
 have hpl := hp.1
 refine wa_ (wa_ (wc_region (w_ (m_ (h:=w_ (m_ (h:=w_ (b_ (h:=wo_nil (e_ (h:=aft_normal (?_))))))))))))
 refine c_ (h1:=?_) (h2:=?_)
 rotate_right 1
 focus
  intro c1
  first
  | exact dn c1
  | (
   have d1 := c1;try simp at d1
   refine wc_exit (?_)
   )
 rotate_right 1
 focus
  intro c1
  first
  | exact dn c1
  | (
   have d1 := c1;try simp at d1
   have hw := wrap_succ (i:=k) (by omega)
   refine wc_skip (?_)
   )
 all_goals first
 | refine aft_exit ?_
 | (
  refine aft_normal ?_
  refine wa_ (wc_block (wa_ (wc_region (w_ (m_ (h:=w_ (m_ (h:=w_ (m_ (h:=w_ (ca (hc:=e_leadsToI pl _ _ (by omega) hp.ok) (h:=w_ (m_ (h:=?_))))))))))))))
  refine gw_ (h1:=?_) (h2:=?_)
  rotate_right 1
  focus
   intro c2
   first
   | exact dn c2
   | (
    have d2 := c2;try simp at d2
    refine go_ (h:=go_ (h:=go_ (h:=go_ (h:=go_ (h:=?_)))))
    )
  rotate_right 1
  focus
   intro c2
   first
   | exact dn c2
   | (
    have d2 := c2;try simp at d2
    refine g_ (h:=w_ (m_ (h:=g_ (h:=w_ (m_ (h:=g_ (h:=w_ (m_ (h:=g_ (h:=w_ (ca (hc:=e_leadsToI pl _ _ (by omega) hp.ok) (h:=g_ (h:=w_ (u_ (h:=?_)))))))))))))))
    )
  all_goals
   refine w_ (pk (h:=wo_nil (e_ (h:=?_))))
  all_goals first
  | (
   refine aft_normal ?_
   refine c_ (h1:=?_) (h2:=?_)
   rotate_right 1
   focus
    intro c3
    first
    | exact dn c3
    | (
     have d3 := c3;try simp at d3
     refine wc_skip (?_)
     )
   rotate_right 1
   focus
    intro c3
    first
    | exact dn c3
    | (
     have d3 := c3;try simp at d3
     refine wa_ (wc_region (w_ (a_ (h:=wo_nil (e_ (h:=aft_normal (wc_ret (?_))))))))
     )
   )
  all_goals first | refine blk_normal ?_ | refine blk_ret ?_
  all_goals first
  | refine aft_ret ?_
  | (
   refine aft_normal ?_
   refine wc_region (w_ (m_ (h:=w_ (b_ (h:=w_ (a_ (h:=wo_nil (e_ (h:=?_)))))))))
   )
  )
 all_goals first
 | (refine (ih (k + 1) (by omega) ?_ _ ?_).trans ?_;(focus (first | omega | (simp;done) | (simp;omega)));(focus (simp [normE,hw];done));(focus (rfl)))
 | (apply end_leaf (ex:=Ext.ret) 1 (some [2,3,6,7,8]);(focus (simp [normE];rfl));(focus (exfalso;simp at *;simp_all [leadsN_trans hab])))
 | (apply end_leaf (ex:=(Ext.exit 4)) 1 (some [2,3,6,7,8]);(focus (simp [normE];rfl));(focus (rfl)))
theorem l_ldB (pl : List Nd) (hp : planP pl) (a : Nat) (ha : a < 2 * pl.length) : ∀ b : Nat,(b ≤ 2 * pl.length) → ∀ s,normE 1 (some [3,6,7,8]) s = ⟨[(3,.lst false 0 (nds false 0 pl)),(6,.int .i64 ((2 * pl.length : Nat) : Int)),(7,.int .i64 a),(8,.int .i64 b)],[],1⟩ →
 oc.loop 3 13 s = some (.exit 2,⟨[(3,.lst false 0 (nds false 0 pl)),(6,.int .i64 ((2 * pl.length : Nat) : Int)),(7,.int .i64 a)],[],1⟩) := by
 refine loop_ind (σ:=Nat) (fun b => 2 * pl.length - b) _ (fun b => ⟨[(3,.lst false 0 (nds false 0 pl)),(6,.int .i64 ((2 * pl.length : Nat) : Int)),(7,.int .i64 a),(8,.int .i64 b)],[],1⟩) _ ?_
 intro b hi ih s hs
 refine loop_s cd3 rfl rfl hs ?_
 have hpl := hp.1
 refine wa_ (wa_ (wc_region (w_ (m_ (h:=w_ (m_ (h:=w_ (b_ (h:=wo_nil (e_ (h:=aft_normal (?_))))))))))))
 refine c_ (h1:=?_) (h2:=?_)
 rotate_right 1
 focus
  intro c1
  first
  | exact dn c1
  | (
   have d1 := c1;try simp at d1
   refine wc_exit (?_)
   )
 rotate_right 1
 focus
  intro c1
  first
  | exact dn c1
  | (
   have d1 := c1;try simp at d1
   have hw := wrap_succ (i:=b) (by omega);have hb : b < 2 * pl.length := (by simp at c1;omega)
   refine wc_skip (?_)
   )
 all_goals first
 | refine aft_exit ?_
 | (
  refine aft_normal ?_
  refine wa_ (wc_block (wa_ (wa_ (wc_region (w_ (m_ (h:=w_ (m_ (h:=w_ (m_ (h:=w_ (ca (hc:=e_leadsToI pl _ _ (by omega) hp.ok) (h:=w_ (u_ (h:=wo_nil (e_ (h:=aft_normal (?_))))))))))))))))))
  refine c_ (h1:=?_) (h2:=?_)
  rotate_right 1
  focus
   intro c2
   first
   | exact dn c2
   | (
    have d2 := c2;try simp at d2
    refine wc_skip (?_)
    )
  rotate_right 1
  focus
   intro c2
   first
   | exact dn c2
   | (
    have d2 := c2;try simp at d2
    refine wc_exit (?_)
    )
  all_goals first
  | refine aft_exit ?_
  | (
   refine aft_normal ?_
   refine wa_ (wa_ (wc_region (w_ (m_ (h:=w_ (m_ (h:=w_ (b_ (h:=wo_nil (e_ (h:=aft_normal (?_))))))))))))
   refine c_ (h1:=?_) (h2:=?_)
   rotate_right 1
   focus
    intro c3
    first
    | exact dn c3
    | (
     have d3 := c3;try simp at d3
     refine wc_skip (?_)
     )
   rotate_right 1
   focus
    intro c3
    first
    | exact dn c3
    | (
     have d3 := c3;try simp at d3
     refine wa_ (wc_region (w_ (a_ (h:=wo_nil (e_ (h:=aft_normal (wc_ret (?_))))))))
     )
   all_goals first
   | refine aft_ret ?_
   | (
    refine aft_normal ?_
    refine wa_ (wc_region (w_ (m_ (h:=w_ (a_ (h:=wo_nil (e_ (h:=aft_normal (wc_block (?_))))))))))
    refine wc_loop (l_ldC pl hp a b (by simpa using c2) ha hb b (by omega) _ (by simp [normE])) ?_
    first | refine blk_ret ?_ | refine blk_exit ?_
    )
   )
  all_goals first | refine blk_normal ?_ | refine blk_ret ?_ | refine blk_exit ?_
  all_goals first
  | refine aft_ret ?_
  | (
   refine aft_normal ?_
   refine wc_region (w_ (m_ (h:=w_ (b_ (h:=w_ (a_ (h:=wo_nil (e_ (h:=?_)))))))))
   )
  )
 all_goals first
 | (refine (ih (b + 1) (by omega) ?_ _ ?_).trans ?_;(focus (first | omega | (simp;done) | (simp;omega)));(focus (simp [normE,hw];done));(focus (rfl)))
 | (apply end_leaf (ex:=Ext.ret) 1 (some [2,3,6,7]);(focus (simp [normE];rfl));(focus (exfalso;simp at *;have := leadsN_le (by assumption);omega)))
 | (apply end_leaf (ex:=(Ext.exit 2)) 1 (some [2,3,6,7]);(focus (simp [normE];rfl));(focus (rfl)))
theorem l_ldA (pl : List Nd) (hp : planP pl) (hr : (lookN pl).2 = 0) : ∀ a : Nat,(a ≤ 2 * pl.length) → ∀ s,normE 1 (some [3,6,7]) s = ⟨[(3,.lst false 0 (nds false 0 pl)),(6,.int .i64 ((2 * pl.length : Nat) : Int)),(7,.int .i64 a)],[],1⟩ →
 oc.loop 3 8 s = some (.exit 0,⟨[],[],1⟩) := by
 refine loop_ind (σ:=Nat) (fun a => 2 * pl.length - a) _ (fun a => ⟨[(3,.lst false 0 (nds false 0 pl)),(6,.int .i64 ((2 * pl.length : Nat) : Int)),(7,.int .i64 a)],[],1⟩) _ ?_
 intro a hi ih s hs
 refine loop_s cd3 rfl rfl hs ?_
 have hpl := hp.1
 refine wa_ (wa_ (wc_region (w_ (m_ (h:=w_ (m_ (h:=w_ (b_ (h:=wo_nil (e_ (h:=aft_normal (?_))))))))))))
 refine c_ (h1:=?_) (h2:=?_)
 rotate_right 1
 focus
  intro c1
  first
  | exact dn c1
  | (
   have d1 := c1;try simp at d1
   refine wc_exit (?_)
   )
 rotate_right 1
 focus
  intro c1
  first
  | exact dn c1
  | (
   have d1 := c1;try simp at d1
   have hw := wrap_succ (i:=a) (by omega);have ha : a < 2 * pl.length := (by simp at c1;omega);have hs := leadsN_self hr (a:=a) (by omega) (by omega)
   refine wc_skip (?_)
   )
 all_goals first
 | refine aft_exit ?_
 | (
  refine aft_normal ?_
  refine wa_ (wc_block (wa_ (wa_ (wc_region (w_ (m_ (h:=w_ (m_ (h:=w_ (m_ (h:=w_ (ca (hc:=e_leadsToI pl _ _ (by omega) hp.ok) (h:=w_ (u_ (h:=w_ (m_ (h:=?_)))))))))))))))))
  refine gw_ (h1:=?_) (h2:=?_)
  rotate_right 1
  focus
   intro c2
   first
   | exact dn c2
   | (
    have d2 := c2;try simp at d2
    refine go_ (h:=go_ (h:=go_ (h:=go_ (h:=?_))))
    )
  rotate_right 1
  focus
   intro c2
   first
   | exact dn c2
   | (
    have d2 := c2;try simp at d2
    refine g_ (h:=w_ (m_ (h:=g_ (h:=w_ (b_ (h:=g_ (h:=w_ (bE (h:=g_ (h:=w_ (m_ (h:=?_))))))))))))
    )
  all_goals
   first
   | (
    skip
    refine goN (h:=goN (h:=goN (h:=goN (h:=goN (h:=goN (h:=?_))))))
    )
   | (
    refine gw_ (h1:=?_) (h2:=?_)
    rotate_right 1
    focus
     intro c3
     first
     | exact dn c3
     | (
      have d3 := c3;try simp at d3
      refine go_ (h:=go_ (h:=go_ (h:=go_ (h:=go_ (h:=go_ (h:=?_))))))
      )
    rotate_right 1
    focus
     intro c3
     first
     | exact dn c3
     | (
      have d3 := c3;try simp at d3
      refine g_ (h:=w_ (m_ (h:=g_ (h:=w_ (m_ (h:=g_ (h:=w_ (m_ (h:=g_ (h:=w_ (b_ (h:=g_ (h:=w_ (ca (hc:=e_leadsToI pl _ _ (by omega) hp.ok) (h:=g_ (h:=w_ (u_ (h:=?_))))))))))))))))))
      )
    )
   all_goals
    first
    | (
     skip
     refine g_ (h:=w_ (pk (h:=?_)))
     )
    | (
     skip
     refine go_ (h:=?_)
     )
    all_goals
     refine w_ (pk (h:=wo_nil (e_ (h:=?_))))
  all_goals first
  | (
   refine aft_normal ?_
   refine c_ (h1:=?_) (h2:=?_)
   rotate_right 1
   focus
    intro c4
    first
    | exact dn c4
    | (
     have d4 := c4;try simp at d4
     refine wc_skip (?_)
     )
   rotate_right 1
   focus
    intro c4
    first
    | exact dn c4
    | (
     have d4 := c4;try simp at d4
     refine wa_ (wc_region (w_ (a_ (h:=wo_nil (e_ (h:=aft_normal (wc_ret (?_))))))))
     )
   )
  all_goals first
  | refine aft_ret ?_
  | (
   refine aft_normal ?_
   refine wa_ (wc_region (w_ (a_ (h:=wo_nil (e_ (h:=aft_normal (wc_block (?_))))))))
   refine wc_loop (l_ldB pl hp a ha 0 (by omega) _ (by simp [normE])) ?_
   first | refine blk_ret ?_ | refine blk_exit ?_
   )
  all_goals first | refine blk_normal ?_ | refine blk_ret ?_
  all_goals first
  | refine aft_ret ?_
  | (
   refine aft_normal ?_
   refine wc_region (w_ (m_ (h:=w_ (b_ (h:=w_ (a_ (h:=wo_nil (e_ (h:=?_)))))))))
   )
  )
 all_goals first
 | (refine (ih (a + 1) (by omega) ?_ _ ?_).trans ?_;(focus (first | omega | (simp;done) | (simp;omega)));(focus (simp [normE,hw];done));(focus (rfl)))
 | (apply end_leaf (ex:=Ext.ret) 1 (some [2]);(focus (simp [normE];rfl));(focus (exfalso;first | (simp [hs] at c2;done) | (have h3 := leadsN_even hr (a:=a) (by omega) (by omega) (by rw [← Int.tmod_eq_emod_of_nonneg (by omega)];simpa using c3);rw [hw] at c4;simp [h3] at c4))))
 | (apply end_leaf (ex:=(Ext.exit 0)) 1 (some [2]);(focus (simp [normE];rfl));(focus (rfl)))
theorem e_fnLeads (c : List Int) (hb : ∀ x ∈ c,0 ≤ x ∧ x < 256) (hl4 : c.length < 400000000000000) : oc.call 3 [.lst false 0 (bys c)] = some (.bool true,[]) := by
 refine fun_s rfl cd3 rfl rfl rfl (by simp;rfl) (by simp;rfl) ?_
 refine wa_ (wc_region (w_ (a_ (h:=wo_nil (e_ (h:=aft_normal (wa_ (wa_ (wc_region (w_ (m_ (h:=w_ (ca (hc:=e_lwBig c hl4) (h:=wo_nil (e_ (h:=aft_normal (?_)))))))))))))))))
 refine c_ (h1:=?_) (h2:=?_)
 rotate_right 1
 focus
  intro c1
  first
  | exact dn c1
  | (
   have d1 := c1;try simp at d1
   have hok : okS c := ⟨by omega,hb⟩;obtain ⟨_,hd,pl,p,q,rfl,hp⟩ := e_drawLd c hok;have hpl := hp.1
   refine wc_skip (?_)
   )
 rotate_right 1
 focus
  intro c1
  first
  | exact dn c1
  | (
   have d1 := c1;try simp at d1
   refine wa_ (wc_region (w_ (a_ (h:=wo_nil (e_ (h:=aft_normal (wc_ret (?_))))))))
   )
 all_goals first
 | refine aft_ret ?_
 | (
  refine aft_normal ?_
  refine wa_ (wc_region (w_ (m_ (h:=w_ (ca (hc:=hd) (h:=w_ (m_ (h:=w_ (ex (h:=w_ (ex (h:=w_ (ex (h:=w_ (a_ (h:=w_ (a_ (h:=w_ (a_ (h:=wo_nil (e_ (h:=?_))))))))))))))))))))))
  refine aft_normal (wa_ (wa_ (wc_region (w_ (m_ (h:=w_ (ca (hc:=e_planS pl (by omega) hp.ok) (h:=w_ (bE (h:=wo_nil (e_ (h:=aft_normal (?_)))))))))))))
  refine c_ (h1:=?_) (h2:=?_)
  rotate_right 1
  focus
   intro c2
   first
   | exact dn c2
   | (
    have d2 := c2;try simp at d2
    refine wc_skip (?_)
    )
  rotate_right 1
  focus
   intro c2
   first
   | exact dn c2
   | (
    have d2 := c2;try simp at d2
    refine wa_ (wc_region (w_ (m_ (h:=w_ (ca (hc:=e_leadsToI pl 0 0 (by omega) hp.ok) (h:=w_ (u_ (h:=w_ (m_ (h:=?_))))))))))
    refine gw_ (h1:=?_) (h2:=?_)
    rotate_right 1
    focus
     intro c3
     first
     | exact dn c3
     | (
      have d3 := c3;try simp at d3
      refine go_ (h:=go_ (h:=go_ (h:=?_)))
      )
    rotate_right 1
    focus
     intro c3
     first
     | exact dn c3
     | (
      have d3 := c3;try simp at d3
      refine g_ (h:=w_ (m_ (h:=g_ (h:=w_ (ca (hc:=e_planI pl (by omega) hp.ok) (h:=g_ (h:=w_ (bE (h:=?_)))))))))
      )
    all_goals
     refine w_ (pk (h:=w_ (a_ (h:=wo_nil (e_ (h:=?_))))))
    all_goals first
    | (
     refine aft_normal ?_
     refine wc_ret (?_)
     )
    )
  all_goals first
  | refine aft_ret ?_
  | (
   refine aft_normal ?_
   refine wa_ (wc_region (w_ (m_ (h:=w_ (le (h:=w_ (?_)))))))
   refine b_ (hv:=iv_mul (c:=2 * pl.length) (by simp) (by omega)) (h:=?_)
   refine w_ (a_ (h:=wo_nil (e_ (h:=aft_normal (wa_ (wa_ (wc_region (w_ (a_ (h:=wo_nil (e_ (h:=aft_normal (wc_block (?_))))))))))))))
   refine wc_loop (l_ldA pl hp (by simpa using c2) 0 (by omega) _ (by simp [normE])) ?_
   first | refine blk_ret ?_ | refine blk_exit ?_
   all_goals first
   | refine aft_ret ?_
   | (
    refine aft_normal ?_
    refine wa_ (wc_region (w_ (a_ (h:=wo_nil (e_ (h:=aft_normal (wc_ret (?_))))))))
    )
   )
  )
 all_goals (refine fin_ (hr:=(res_tmp rfl res_nil)) (h:=?_);(focus (first | (simp;done) | (simp_all [leadsN];done) | (simp [leadsN] at *;simp [*];done))))
theorem law_fnLeads (c : List Int) (h : okBy c) : oc.call 3 [.lst false 0 (bys c)] = some (.bool true,[]) := e_fnLeads c h.2 (by have := h.1;omega)
end Go.Proofs.Ytbcgenkegnmkhaa.Ev
