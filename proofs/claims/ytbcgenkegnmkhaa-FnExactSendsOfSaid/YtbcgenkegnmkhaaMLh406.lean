/- Part 6 of the proof that the law named in the last part returns true at every argument: an evaluator of the program, shown sound, and its runs. No further conditions. -/
import Derived.Test.YtbcgenkegnmkhaaMLh405
namespace Go.Proofs.Ytbcgenkegnmkhaa.Ev
open Go
set_option maxRecDepth 100000
set_option linter.unusedSimpArgs false
set_option linter.unusedVariables false
set_option maxHeartbeats 2000000
def outC (pl : List Nd) (node m sf : Int) (z : List Et) (ep : Int) : Int := if routeC pl node m sf = 0 then (if inI ep 0 1000 = true then widF z (at0 (widN pl) node) else 3) else routeC pl node m sf
def outN (pl : List Nd) (node m sf : Int) (z : List Et) (ep : Int) : Int × List Fr × List Int := if outC pl node m sf z ep = 0 then (0,sendsR pl node m.toNat sf ep z (rdFrom node 0 pl)) else (outC pl node m sf z ep,[],[])
@[simp] abbrev ouV (r : Int × List Fr × List Int) : V := .agg [.int .i64 r.1,.lst true 6 (frs true r.2.1),.lst true 1 (ints r.2.2)]
@[simp] abbrev ouF (r : Int × List Fr × List Int) : V := .agg [.int .i64 r.1,.lst false 0 (frs false r.2.1),.lst false 0 (ints r.2.2)]
theorem outC_zero {pl : List Nd} {node m sf : Int} {z : List Et} {ep : Int} (h : outC pl node m sf z ep = 0) : routeC pl node m sf = 0 ∧ inI ep 0 1000 = true ∧ widF z (at0 (widN pl) node) = 0 := by
  unfold outC at h
  split at h
  · split at h
    · exact ⟨‹_›,‹_›,h⟩
    · cases h
  · exact absurd h ‹_›
theorem sends_len {pl : List Nd} (hk : okN pl) (hn : (lookN pl).2 = 0) {node : Int} {W : Nat} (hW : W ≤ 3) {sf ep : Int} {z : List Et} : (sendsR pl node W sf ep z (rdFrom node 0 pl)).1.length ≤ 48 ∧ (sendsR pl node W sf ep z (rdFrom node 0 pl)).2.length ≤ 48 := by
  have h1 := rdFrom_len (a:=node) (l:=pl) (i:=0)
  have h2 := (look_good hk hn).2.2.2.2
  have h3 := sendsR_len (pl:=pl) (node:=node) (sf:=sf) (ep:=ep) (z:=z) hW (r:=rdFrom node 0 pl)
  omega
theorem e_sndI (pl : List Nd) (node m sf : Int) (z : List Et) (ep : Int) (hp : pl.length < 2000000) (hk : okN pl) (hz : w_Ets z < 2000000) : oc.call 23 [.lst false 0 (nds false 0 pl),.int .i64 node,.int .i64 m,.int .i64 sf,.lst false 0 (ets false z),.int .i64 ep] = some (ouV (outN pl node m sf z ep),[]) := by
 refine fun_s rfl cd23 rfl rfl rfl (by simp;rfl) (by simp;rfl) ?_
 have hzl := w_Ets_len (l:=z)
 refine wa_ (wc_region (w_ (al (h:=wo_nil (e_ (h:=aft_normal (wa_ (wc_region (w_ (m_ (h:=w_ (m_ (h:=w_ (m_ (h:=w_ (m_ (h:=w_ (ca (hc:=e_routeI pl node m sf hp hk) (h:=?_)))))))))))))))))))
 refine w_ (m_ (h:=w_ (ex (h:=w_ (ex (h:=w_ (a_ (h:=w_ (a_ (h:=wo_nil (e_ (h:=aft_normal (wa_ (wa_ (wc_region (w_ (m_ (h:=w_ (bE (h:=?_))))))))))))))))))))
 refine w_ (m_ (h:=?_))
 refine gw_ (h1:=?_) (h2:=?_)
 rotate_right 1
 focus
  intro c1
  first
  | exact dn c1
  | (
   have d1 := c1;try simp at d1
   refine go_ (h:=go_ (h:=go_ (h:=?_)))
   )
 rotate_right 1
 focus
  intro c1
  first
  | exact dn c1
  | (
   have d1 := c1;try simp at d1
   refine g_ (h:=w_ (m_ (h:=g_ (h:=w_ (ca (hc:=e_in _ _ _) (h:=g_ (h:=w_ (u_ (h:=?_)))))))))
   )
 all_goals
  refine w_ (pk (h:=wo_nil (e_ (h:=?_))))
 all_goals first
 | (
  refine aft_normal ?_
  refine c_ (h1:=?_) (h2:=?_)
  rotate_right 1
  focus
   intro c2
   first
   | exact dn c2
   | (
    have d2 := c2;try simp at d2
    refine wc_skip (?_)
    )
  rotate_right 1
  focus
   intro c2
   first
   | exact dn c2
   | (
    have d2 := c2;try simp at d2
    refine wc_region (w_ (a_ (h:=wo_nil (e_ (h:=?_)))))
    )
  )
 all_goals first
 | (
  refine aft_normal ?_
  refine wa_ (wa_ (wc_region (w_ (m_ (h:=w_ (bE (h:=wo_nil (e_ (h:=aft_normal (?_))))))))))
  refine c_ (h1:=?_) (h2:=?_)
  rotate_right 1
  focus
   intro c3
   first
   | exact dn c3
   | (
    have d3 := c3;try simp at d3
    refine wc_skip (?_)
    )
  rotate_right 1
  focus
   intro c3
   first
   | exact dn c3
   | (
    have d3 := c3;try simp at d3
    have hnz := nodeC_zero (routeC_zero d3).1;have hgl := (look_good hk hnz.1).2.1;have g1 := ints_ix (w:=widN pl) hnz.2.1 (by rw [hgl];exact hnz.2.2)
    refine wc_region (w_ (m_ (h:=w_ (m_ (h:=w_ (m_ (h:=w_ (x_ (h:=w_ (l_ (h:=w_ (ca (hc:=e_widI z _ hz) (h:=w_ (a_ (h:=wo_nil (e_ (h:=?_)))))))))))))))))
    )
  all_goals first
  | (
   refine aft_normal ?_
   refine wa_ (wa_ (wc_region (w_ (m_ (h:=w_ (bE (h:=wo_nil (e_ (h:=aft_normal (?_))))))))))
   refine c_ (h1:=?_) (h2:=?_)
   rotate_right 1
   focus
    intro c4
    first
    | exact dn c4
    | (
     have d4 := c4;try simp at d4
     have hout : outC pl node m sf z ep = 0 := (by unfold outC;rw [if_pos d3,if_pos (by simpa using d2)];simpa using d4);have hmm : 1 ≤ m ∧ m ≤ 3 ∧ 0 ≤ sf ∧ sf < m := (by have := routeC_zero d3;omega);obtain ⟨W,rfl⟩ : ∃ W : Nat,m = W := ⟨m.toNat,by omega⟩
     refine wc_skip (?_)
     )
   rotate_right 1
   focus
    intro c4
    first
    | exact dn c4
    | (
     have d4 := c4;try simp at d4
     refine wa_ (wc_region (w_ (m_ (h:=w_ (bd (h:=w0 (s_ (h:=wo_nil (e_ (h:=aft_normal (wc_ret (?_))))))))))))
     )
   all_goals first
   | refine aft_ret ?_
   | (
    refine aft_normal ?_
    refine wa_ (wc_region (w_ (m_ (h:=w_ (m_ (h:=w_ (m_ (h:=w_ (m_ (h:=w_ (m_ (h:=w_ (m_ (h:=w_ (m_ (h:=w_ (ca (hc:=e_sendI pl node W sf z ep hp hk hnz.1 hz (widF_len (outC_zero hout).2.2) (by omega) (by omega) (by omega)) (h:=w_ (m_ (h:=w_ (ex (h:=?_))))))))))))))))))))))
    refine w_ (ex (h:=w_ (a_ (h:=w_ (a_ (h:=wo_nil (e_ (h:=aft_normal (wa_ (wc_region (w_ (m_ (h:=w_ (m_ (h:=w_ (bd (h:=w0 (s_ (h:=wo_nil (e_ (h:=?_)))))))))))))))))))))
    refine aft_normal (wc_ret (?_))
    )
   )
  )
 all_goals (refine fin_ (hr:=(res_cell (tys_ok.zero _ _ rfl) rfl (by simp;rfl) (by rfl) res_nil)) (h:=?_);(focus (clear hk;first | (simp [outN,hout];done) | (simp [outN,outC, *];done))))
theorem e_sndS (pl : List Nd) (node m sf : Int) (z : List Et) (ep : Int) (hp : pl.length < 2000000) (hk : okN pl) (hz : w_Ets z < 2000000) : oc.call 20 [.lst false 0 (nds false 0 pl),.int .i64 node,.int .i64 m,.int .i64 sf,.lst false 0 (ets false z),.int .i64 ep] = some (ouV (outN pl node m sf z ep),[]) := by
 refine fun_s rfl cd20 rfl rfl rfl (by simp;rfl) (by simp;rfl) ?_
 have hzl := w_Ets_len (l:=z)
 refine wa_ (wc_region (w_ (al (h:=wo_nil (e_ (h:=aft_normal (wa_ (wa_ (wc_region (w_ (m_ (h:=w_ (m_ (h:=w_ (m_ (h:=w_ (m_ (h:=?_))))))))))))))))))
 refine w_ (ca (hc:=e_routeS pl node m sf hp hk) (h:=w_ (a_ (h:=wo_nil (e_ (h:=aft_normal (wa_ (wc_region (w_ (m_ (h:=w_ (bE (h:=wo_nil (e_ (h:=aft_normal (?_))))))))))))))))
 refine c_ (h1:=?_) (h2:=?_)
 rotate_right 1
 focus
  intro c1
  first
  | exact dn c1
  | (
   have d1 := c1;try simp at d1
   have hnz := nodeC_zero (routeC_zero d1).1;have hgl := (look_good hk hnz.1).2.1
   refine wc_skip (?_)
   )
 rotate_right 1
 focus
  intro c1
  first
  | exact dn c1
  | (
   have d1 := c1;try simp at d1
   refine wa_ (wc_region (w_ (m_ (h:=w_ (bd (h:=w0 (s_ (h:=wo_nil (e_ (h:=aft_normal (wc_ret (?_))))))))))))
   )
 all_goals first
 | refine aft_ret ?_
 | (
  refine aft_normal ?_
  refine wa_ (wa_ (wc_region (w_ (m_ (h:=w_ (ca (hc:=e_l1In _ _ _) (h:=w_ (u_ (h:=wo_nil (e_ (h:=aft_normal (?_))))))))))))
  refine c_ (h1:=?_) (h2:=?_)
  rotate_right 1
  focus
   intro c2
   first
   | exact dn c2
   | (
    have d2 := c2;try simp at d2
    refine wc_skip (?_)
    )
  rotate_right 1
  focus
   intro c2
   first
   | exact dn c2
   | (
    have d2 := c2;try simp at d2
    refine wa_ (wc_region (w_ (bd (h:=w0 (s_ (h:=wo_nil (e_ (h:=aft_normal (wc_ret (?_))))))))))
    )
  all_goals first
  | refine aft_ret ?_
  | (
   refine aft_normal ?_
   refine wa_ (wa_ (wc_region (w_ (m_ (h:=w_ (m_ (h:=w_ (m_ (h:=w_ (ca (hc:=e_l3WidthI pl (widN pl) hp (look_good hk hnz.1).1 node hnz.2.1 (by rw [hgl];exact hnz.2.2)) (h:=w_ (ca (hc:=e_widS z _ hz) (h:=w_ (a_ (h:=wo_nil (e_ (h:=aft_normal (wa_ (?_)))))))))))))))))))
   refine wc_region (w_ (m_ (h:=w_ (bE (h:=wo_nil (e_ (h:=aft_normal (?_))))))))
   refine c_ (h1:=?_) (h2:=?_)
   rotate_right 1
   focus
    intro c3
    first
    | exact dn c3
    | (
     have d3 := c3;try simp at d3
     have hout : outC pl node m sf z ep = 0 := (by unfold outC;rw [if_pos d1,if_pos (by simpa using d2)];simpa using d3);have hmm : 1 ≤ m ∧ m ≤ 3 ∧ 0 ≤ sf ∧ sf < m := (by have := routeC_zero d1;omega);obtain ⟨W,rfl⟩ : ∃ W : Nat,m = W := ⟨m.toNat,by omega⟩
     refine wc_skip (?_)
     )
   rotate_right 1
   focus
    intro c3
    first
    | exact dn c3
    | (
     have d3 := c3;try simp at d3
     refine wa_ (wc_region (w_ (m_ (h:=w_ (bd (h:=w0 (s_ (h:=wo_nil (e_ (h:=aft_normal (wc_ret (?_))))))))))))
     )
   all_goals first
   | refine aft_ret ?_
   | (
    refine aft_normal ?_
    refine wa_ (wc_region (w_ (m_ (h:=w_ (m_ (h:=w_ (m_ (h:=w_ (m_ (h:=w_ (m_ (h:=w_ (m_ (h:=w_ (ca (hc:=e_sendS pl node W sf z ep hp hk hnz.1 hz (widF_len (outC_zero hout).2.2) (by omega) (by omega) (by omega)) (h:=w_ (m_ (h:=w_ (ex (h:=w_ (ex (h:=?_))))))))))))))))))))))
    refine w_ (a_ (h:=w_ (a_ (h:=wo_nil (e_ (h:=aft_normal (wa_ (wc_region (w_ (m_ (h:=w_ (m_ (h:=w_ (bd (h:=w0 (s_ (h:=wo_nil (e_ (h:=aft_normal (?_))))))))))))))))))))
    refine wc_ret (?_)
    )
   )
  )
 all_goals (refine fin_ (hr:=(res_cell (tys_ok.zero _ _ rfl) rfl (by simp;rfl) (by rfl) res_nil)) (h:=?_);(focus (clear hk;first | (simp [outN,hout];done) | (simp [outN,outC, *];done))))
theorem out_small {pl : List Nd} (hk : okN pl) {node m sf : Int} {z : List Et} {ep : Int} (h : outC pl node m sf z ep = 0) : z.length ≤ 200 ∧ w_Ets z ≤ 1000 := by
  obtain ⟨h1,h2,h3⟩ := outC_zero h
  have hnz := nodeC_zero (routeC_zero h1).1
  obtain ⟨g1,g2,g3,g4⟩ := look_good hk hnz.1
  have hw := g3 node.toNat (by omega)
  rw [Int.toNat_of_nonneg hnz.2.1] at hw
  have hrow := widF_len h3
  have hl : z.length ≤ 200 := by
    unfold widF at h3
    split at h3
    · rename_i hs
      unfold setC at hs
      split at hs
      · cases hs
      · omega
    · exact absurd h3 ‹_›
  have hw2 : wS w_Et z ≤ z.length * 4 := wS_leS (fun e he => by have := hrow e he;unfold w_Et;omega)
  unfold w_Ets
  omega
theorem framesP_sub {m s ep : Int} {z : List Et} : ∀ {l : List (List Et)},(∀ p ∈ l,w_Ets p ≤ w_Ets z) → ∀ f ∈ framesP m s ep l,w_Ets f.set ≤ w_Ets z ∧ f.news = []
  | [],h,f,hf => by simp [framesP] at hf
  | p :: r,h,f,hf => by
    unfold framesP at hf
    split at hf
    · exact framesP_sub (fun q hq => h q (List.mem_cons_of_mem _ hq)) f hf
    · rcases List.mem_cons.1 hf with rfl | hf
      · exact ⟨h p (List.mem_cons_self ..),rfl⟩
      · exact framesP_sub (fun q hq => h q (List.mem_cons_of_mem _ hq)) f hf
theorem sidesN_sub {pl : List Nd} {node : Int} {W : Nat} {sf ep : Int} {z : List Et} {m : Int} : ∀ {r : List Int} {s : Nat},∀ f ∈ (sidesN pl node W sf ep z m s r).1,w_Ets f.set ≤ w_Ets z ∧ f.news = []
  | [],s,f,hf => by simp [sidesN] at hf
  | x :: r,s,f,hf => by
    by_cases hx : x = node
    · rw [sidesN_1 hx] at hf
      rcases List.mem_append.1 hf with hf | hf
      · exact framesP_sub (fun p hp => w_Ets_sub (partsN_mem hp)) f hf
      · exact sidesN_sub f hf
    · rw [sidesN_0 hx] at hf
      exact sidesN_sub f hf
theorem sendsR_sub {pl : List Nd} {node : Int} {W : Nat} {sf ep : Int} {z : List Et} : ∀ {r : List Int},∀ f ∈ (sendsR pl node W sf ep z r).1,w_Ets f.set ≤ w_Ets z ∧ f.news = []
  | [],f,hf => by simp [sendsR] at hf
  | m :: r,f,hf => by
    simp only [sendsR] at hf
    rcases List.mem_append.1 hf with hf | hf
    · exact sidesN_sub f hf
    · exact sendsR_sub f hf
theorem outN_small {pl : List Nd} (hk : okN pl) {node m sf : Int} {z : List Et} {ep : Int} : w_Frs (outN pl node m sf z ep).2.1 < 1000000 ∧ cn_Frs (outN pl node m sf z ep).2.1 < 1000000 ∧ (outN pl node m sf z ep).2.2.length < 1000000 := by
  unfold outN
  split
  · rename_i h
    obtain ⟨s1,s2⟩ := out_small hk h
    obtain ⟨h1,_,_⟩ := outC_zero h
    have hm := routeC_zero h1
    have hnz := nodeC_zero hm.1
    obtain ⟨l1,l2⟩ := sends_len hk hnz.1 (W:=m.toNat) (by omega) (node:=node) (sf:=sf) (ep:=ep) (z:=z)
    have hsub := sendsR_sub (pl:=pl) (node:=node) (W:=m.toNat) (sf:=sf) (ep:=ep) (z:=z) (r:=rdFrom node 0 pl)
    generalize sendsR pl node m.toNat sf ep z (rdFrom node 0 pl) = R at *
    have k1 : wS w_Fr R.1 ≤ R.1.length * 1000 := wS_leS (fun f hf => by have := hsub f hf;unfold w_Fr;rw [this.2];simp;omega)
    have k2 : cn_Frs R.1 ≤ R.1.length * 1004 := wS_leS (fun f hf => by have := hsub f hf;unfold cn_Fr;rw [this.2,cn_Ets_eq];simp [cn_Cts,wS];omega)
    refine ⟨?_,?_,?_⟩
    · unfold w_Frs
      simp only;omega
    · simp only;omega
    · simp only;omega
  · simp [w_Frs,cn_Frs,wS]
theorem e_eqFrR (r s : Int × List Fr × List Int) (h1 : w_Frs r.2.1 < 2000000) (h2 : w_Frs s.2.1 < 2000000) (h3 : r.2.2.length < 2000000) (h4 : s.2.2.length < 2000000) : oc.call 24 [ouF r,ouF s] = some (.bool (decide (r = s)),[]) := by
 refine fun_s rfl cd24 rfl rfl rfl (by simp;rfl) (by simp;rfl) ?_
 refine wa_ (wc_region (w_ (bx (h:=w_ (bx (h:=w_ (a_ (h:=wo_nil (e_ (h:=aft_normal (wa_ (wa_ (wc_region (w_ (f_ (h:=w_ (l_ (h:=?_))))))))))))))))))
 refine w_ (f_ (h:=w_ (l_ (h:=w_ (bE (h:=wo_nil (e_ (h:=aft_normal (?_)))))))))
 refine c_ (h1:=?_) (h2:=?_)
 rotate_right 1
 focus
  intro c1
  first
  | exact dn c1
  | (
   have d1 := c1;try simp at d1
   refine wc_skip (?_)
   )
 rotate_right 1
 focus
  intro c1
  first
  | exact dn c1
  | (
   have d1 := c1;try simp at d1
   refine wa_ (wc_region (w_ (a_ (h:=wo_nil (e_ (h:=aft_normal (wc_ret (?_))))))))
   )
 all_goals first
 | refine aft_ret ?_
 | (
  refine aft_normal ?_
  refine wa_ (wa_ (wc_region (w_ (f_ (h:=w_ (l_ (h:=w_ (f_ (h:=w_ (l_ (h:=w_ (ca (hc:=eq_Frs r.2.1 s.2.1 h1 h2) (h:=w_ (u_ (h:=wo_nil (e_ (h:=aft_normal (?_))))))))))))))))))
  refine c_ (h1:=?_) (h2:=?_)
  rotate_right 1
  focus
   intro c2
   first
   | exact dn c2
   | (
    have d2 := c2;try simp at d2
    refine wc_skip (?_)
    )
  rotate_right 1
  focus
   intro c2
   first
   | exact dn c2
   | (
    have d2 := c2;try simp at d2
    refine wa_ (wc_region (w_ (a_ (h:=wo_nil (e_ (h:=aft_normal (wc_ret (?_))))))))
    )
  all_goals first
  | refine aft_ret ?_
  | (
   refine aft_normal ?_
   refine wa_ (wa_ (wc_region (w_ (f_ (h:=w_ (l_ (h:=w_ (f_ (h:=w_ (l_ (h:=w_ (ca (hc:=e_eqI r.2.2 s.2.2 0 0 (by omega) (by omega)) (h:=w_ (u_ (h:=wo_nil (e_ (h:=aft_normal (?_))))))))))))))))))
   refine c_ (h1:=?_) (h2:=?_)
   rotate_right 1
   focus
    intro c3
    first
    | exact dn c3
    | (
     have d3 := c3;try simp at d3
     refine wc_skip (?_)
     )
   rotate_right 1
   focus
    intro c3
    first
    | exact dn c3
    | (
     have d3 := c3;try simp at d3
     refine wa_ (wc_region (w_ (a_ (h:=wo_nil (e_ (h:=aft_normal (wc_ret (?_))))))))
     )
   all_goals first
   | refine aft_ret ?_
   | (
    refine aft_normal ?_
    refine wa_ (wc_region (w_ (a_ (h:=wo_nil (e_ (h:=aft_normal (wc_ret (?_))))))))
    )
   )
  )
 all_goals (refine fin_ (hr:=(res_tmp rfl res_nil)) (h:=?_);(focus (simp [Prod.ext_iff] at *;simp_all)))
theorem e_heldFrR (c k : Int) (l : List Fr) (n : Nat) (hk : 0 ≤ k) (hb : k + (cn_Frs l : Nat) + n < 1000000000000000000) : oc.call 30 [ouF (c,mk_Frs k l,mkI (k + (cn_Frs l : Nat)) n),.int .i64 k] = some (.int .i64 (k + (cn_Frs l : Nat) + n),[]) := by
 refine fun_s rfl cd30 rfl rfl rfl (by simp;rfl) (by simp;rfl) ?_
 refine wa_ (wc_region (w_ (bx (h:=w_ (a_ (h:=wo_nil (e_ (h:=aft_normal (wa_ (wc_region (w_ (f_ (h:=w_ (l_ (h:=w_ (m_ (h:=w_ (ca (hc:=held_Frs k l hk (by omega)) (h:=?_)))))))))))))))))))
 refine w_ (a_ (h:=wo_nil (e_ (h:=aft_normal (wa_ (wa_ (wc_region (w_ (m_ (h:=w_ (b_ (h:=wo_nil (e_ (h:=aft_normal (?_)))))))))))))))
 refine c_ (h1:=?_) (h2:=?_)
 rotate_right 1
 focus
  intro c1
  first
  | exact dn c1
  | (
   have d1 := c1;try simp at d1
   refine wc_skip (?_)
   )
 rotate_right 1
 focus
  intro c1
  first
  | exact dn c1
  | (
   have d1 := c1;try simp at d1
   refine wa_ (wc_region (w_ (a_ (h:=wo_nil (e_ (h:=aft_normal (wc_ret (?_))))))))
   )
 all_goals first
 | refine aft_ret ?_
 | (
  refine aft_normal ?_
  refine wa_ (wc_region (w_ (f_ (h:=w_ (l_ (h:=w_ (m_ (h:=w_ (ca (hc:=held_I (k + (cn_Frs l : Nat)) n (by omega) (by omega)) (h:=w_ (a_ (h:=wo_nil (e_ (h:=aft_normal (wa_ (wa_ (wc_region (?_))))))))))))))))))
  refine w_ (m_ (h:=w_ (b_ (h:=wo_nil (e_ (h:=aft_normal (?_)))))))
  refine c_ (h1:=?_) (h2:=?_)
  rotate_right 1
  focus
   intro c2
   first
   | exact dn c2
   | (
    have d2 := c2;try simp at d2
    refine wc_skip (?_)
    )
  rotate_right 1
  focus
   intro c2
   first
   | exact dn c2
   | (
    have d2 := c2;try simp at d2
    refine wa_ (wc_region (w_ (a_ (h:=wo_nil (e_ (h:=aft_normal (wc_ret (?_))))))))
    )
  all_goals first
  | refine aft_ret ?_
  | (
   refine aft_normal ?_
   refine wa_ (wc_region (w_ (m_ (h:=w_ (a_ (h:=wo_nil (e_ (h:=aft_normal (wc_ret (?_))))))))))
   )
  )
 all_goals (refine fin_ (hr:=(res_tmp rfl res_nil)) (h:=?_);(focus (first | (simp at *;done) | (simp at *;omega))))
theorem law_sends (pl : List Nd) (node m sf : Int) (z : List Et) (ep : Int) (ho : okB pl) (hz : bg_Ets z) : oc.call 5 [.lst false 0 (nds false 0 pl),.int .i64 node,.int .i64 m,.int .i64 sf,.lst false 0 (ets false z),.int .i64 ep] = some (.bool true,[]) := by
 refine fun_s rfl cd5 rfl rfl rfl (by simp;rfl) (by simp;rfl) ?_
 refine wa_ (wc_region (w_ (a_ (h:=wo_nil (e_ (h:=aft_normal (wa_ (wc_region (w_ (a_ (h:=wo_nil (e_ (h:=aft_normal (wa_ (wc_region (?_))))))))))))))))
 refine w_ (m_ (h:=w_ (m_ (h:=w_ (ca (hc:=e_szNS pl 0 1048576 ho (by omega) (by omega)) (h:=w_ (a_ (h:=wo_nil (e_ (h:=aft_normal (wa_ (wa_ (wc_region (w_ (m_ (h:=w_ (b_ (h:=wo_nil (e_ (h:=?_))))))))))))))))))))
 refine aft_normal (?_)
 refine c_ (h1:=?_) (h2:=?_)
 rotate_right 1
 focus
  intro c1
  first
  | exact dn c1
  | (
   have d1 := c1;try simp at d1
   obtain ⟨h1,h2,h3⟩ := szP_ok (l:=pl) (a:=1048576) (by omega) (by omega);have hnd := cn_Nds_lt h1 h2
   refine wc_skip (?_)
   )
 rotate_right 1
 focus
  intro c1
  first
  | exact dn c1
  | (
   have d1 := c1;try simp at d1
   refine wa_ (wc_region (w_ (a_ (h:=wo_nil (e_ (h:=aft_normal (wc_ret (?_))))))))
   )
 all_goals first
 | refine aft_ret ?_
 | (
  refine aft_normal ?_
  refine wa_ (wc_region (w_ (m_ (h:=w_ (m_ (h:=w_ (ca (hc:=sz_Ets z (szP pl 1048576) hz (by omega) (by omega)) (h:=w_ (a_ (h:=wo_nil (e_ (h:=aft_normal (wa_ (wa_ (wc_region (w_ (m_ (h:=?_))))))))))))))))))
  refine w_ (b_ (h:=wo_nil (e_ (h:=aft_normal (?_)))))
  refine c_ (h1:=?_) (h2:=?_)
  rotate_right 1
  focus
   intro c2
   first
   | exact dn c2
   | (
    have d2 := c2;try simp at d2
    obtain ⟨h4,h5⟩ := szI_pos (n:=w_Ets z) (a:=szP pl 1048576) (by omega);have hw : w_Ets z < 2000000 := (by omega);obtain ⟨q1,q2,q3⟩ := outN_small h2 (node:=node) (m:=m) (sf:=sf) (z:=z) (ep:=ep);have hcz := cn_Ets_eq (l:=z);have hT : List.take (outN pl node m sf z ep).2.2.length (mkI (1 + (cn_Frs (outN pl node m sf z ep).2.1 : Nat)) (outN pl node m sf z ep).2.2.length) = mkI (1 + (cn_Frs (outN pl node m sf z ep).2.1 : Nat)) (outN pl node m sf z ep).2.2.length := List.take_of_length_le (by simp)
    refine wc_skip (?_)
    )
  rotate_right 1
  focus
   intro c2
   first
   | exact dn c2
   | (
    have d2 := c2;try simp at d2
    refine wa_ (wc_region (w_ (a_ (h:=wo_nil (e_ (h:=aft_normal (wc_ret (?_))))))))
    )
  all_goals first
  | refine aft_ret ?_
  | (
   refine aft_normal ?_
   refine wa_ (wc_region (w_ (m_ (h:=w_ (ca (hc:=e_toNS pl 0 h1 h2) (h:=w_ (m_ (h:=w_ (m_ (h:=w_ (m_ (h:=w_ (m_ (h:=w_ (ca (hc:=to_Ets z hw) (h:=w_ (m_ (h:=w_ (ca (hc:=e_sndS pl node m sf z ep h1 h2 hw) (h:=w_ (al (h:=?_))))))))))))))))))))))
   refine w0 (s_ (h:=wo_nil (e_ (h:=aft_normal (wa_ (wc_region (w_ (m_ (h:=w_ (ca (hc:=e_toNS pl 0 h1 h2) (h:=w_ (a_ (h:=wo_nil (e_ (h:=aft_normal (wa_ (wc_region (?_))))))))))))))))))
   refine w_ (m_ (h:=w_ (ca (hc:=to_Ets z hw) (h:=w_ (a_ (h:=wo_nil (e_ (h:=aft_normal (wa_ (wc_region (w_ (m_ (h:=w_ (m_ (h:=w_ (m_ (h:=w_ (m_ (h:=w_ (m_ (h:=?_)))))))))))))))))))))
   refine w_ (m_ (h:=w_ (ca (hc:=e_sndI pl node m sf z ep h1 h2 hw) (h:=w_ (al (h:=w0 (s_ (h:=wo_nil (e_ (h:=aft_normal (wa_ (wa_ (wc_region (w_ (l_ (h:=w_ (l_ (h:=w_ (ca (hc:=e_eqFrR (outN pl node m sf z ep) (outN pl node m sf z ep) (by omega) (by omega) (by omega) (by omega)) (h:=?_))))))))))))))))))))
   refine w_ (u_ (h:=wo_nil (e_ (h:=aft_normal (?_)))))
   refine c_ (h1:=?_) (h2:=?_)
   rotate_right 1
   focus
    intro c3
    first
    | exact dn c3
    | (
     have d3 := c3;try simp at d3
     refine wc_skip (?_)
     )
   rotate_right 1
   focus
    intro c3
    first
    | exact dn c3
    | (
     have d3 := c3;try simp at d3
     refine wa_ (wc_region (w_ (a_ (h:=wo_nil (e_ (h:=aft_normal (wc_ret (?_))))))))
     )
   all_goals first
   | refine aft_ret ?_
   | (
    refine aft_normal ?_
    refine wa_ (wa_ (wc_region (w_ (m_ (h:=w_ (m_ (h:=w_ (ca (hc:=e_toNS pl 0 h1 h2) (h:=w_ (ca (hc:=e_eqNS pl pl 0 0 h1 h1 h2 h2) (h:=w_ (u_ (h:=wo_nil (e_ (h:=aft_normal (?_))))))))))))))))
    refine c_ (h1:=?_) (h2:=?_)
    rotate_right 1
    focus
     intro c4
     first
     | exact dn c4
     | (
      have d4 := c4;try simp at d4
      refine wc_skip (?_)
      )
    rotate_right 1
    focus
     intro c4
     first
     | exact dn c4
     | (
      have d4 := c4;try simp at d4
      refine wa_ (wc_region (w_ (a_ (h:=wo_nil (e_ (h:=aft_normal (wc_ret (?_))))))))
      )
    all_goals first
    | refine aft_ret ?_
    | (
     refine aft_normal ?_
     refine wa_ (wa_ (wc_region (w_ (m_ (h:=w_ (m_ (h:=w_ (ca (hc:=to_Ets z hw) (h:=w_ (ca (hc:=eq_Ets z z hw hw) (h:=w_ (u_ (h:=wo_nil (e_ (h:=aft_normal (?_))))))))))))))))
     refine c_ (h1:=?_) (h2:=?_)
     rotate_right 1
     focus
      intro c5
      first
      | exact dn c5
      | (
       have d5 := c5;try simp at d5
       refine wc_skip (?_)
       )
     rotate_right 1
     focus
      intro c5
      first
      | exact dn c5
      | (
       have d5 := c5;try simp at d5
       refine wa_ (wc_region (w_ (a_ (h:=wo_nil (e_ (h:=aft_normal (wc_ret (?_))))))))
       )
     all_goals first
     | refine aft_ret ?_
     | (
      refine aft_normal ?_
      refine wa_ (wc_region (w_ (a_ (h:=wo_nil (e_ (h:=aft_normal (wa_ (wc_region (w_ (m_ (h:=w_ (m_ (h:=?_)))))))))))))
      first | refine ip (hc:=mkf_Nds 1 pl (by omega) (by omega)) (h:=?_) | refine iq (hc:=mkf_Nds 1 pl (by omega) (by omega)) (h:=?_)
      refine w_ (a_ (h:=wo_nil (e_ (h:=aft_normal (wa_ (wc_region (w_ (m_ (h:=w_ (m_ (h:=?_)))))))))))
      first | refine ip (hc:=mkf_Ets (1 + (cn_Nds pl : Nat)) z (by omega) (by omega)) (h:=?_) | refine iq (hc:=mkf_Ets (1 + (cn_Nds pl : Nat)) z (by omega) (by omega)) (h:=?_)
      refine w_ (a_ (h:=wo_nil (e_ (h:=aft_normal (wa_ (wa_ (wc_region (w_ (m_ (h:=w_ (b_ (h:=w_ (m_ (h:=?_))))))))))))))
      refine gw_ (h1:=?_) (h2:=?_)
      rotate_right 1
      focus
       intro c6
       first
       | exact dn c6
       | (
        have d6 := c6;try simp at d6
        refine go_ (h:=go_ (h:=go_ (h:=go_ (h:=?_))))
        )
      rotate_right 1
      focus
       intro c6
       first
       | exact dn c6
       | (
        have d6 := c6;try simp at d6
        refine g_ (h:=w_ (l_ (h:=g_ (h:=w_ (l_ (h:=g_ (h:=w_ (ca (hc:=e_eqFrR (outN pl node m sf z ep) (outN pl node m sf z ep) (by omega) (by omega) (by omega) (by omega)) (h:=g_ (h:=w_ (u_ (h:=?_))))))))))))
        )
      all_goals
       refine w_ (pk (h:=wo_nil (e_ (h:=?_))))
      all_goals first
      | (
       refine aft_normal ?_
       refine c_ (h1:=?_) (h2:=?_)
       rotate_right 1
       focus
        intro c7
        first
        | exact dn c7
        | (
         have d7 := c7;try simp at d7
         refine wc_skip (?_)
         )
       rotate_right 1
       focus
        intro c7
        first
        | exact dn c7
        | (
         have d7 := c7;try simp at d7
         refine wa_ (wc_region (w_ (a_ (h:=wo_nil (e_ (h:=aft_normal (wc_ret (?_))))))))
         )
       )
      all_goals first
      | refine aft_ret ?_
      | (
       refine aft_normal ?_
       refine wa_ (wc_region (w_ (a_ (h:=wo_nil (e_ (h:=aft_normal (wa_ (wc_region (w_ (l_ (h:=w_ (m_ (h:=?_)))))))))))))
       refine iE (h:=?_)
       apply Exists.intro
       apply Exists.intro
       apply Exists.intro
       apply And.intro
       focus
        apply inl_s (by rw [cf_pl];rfl) cd29 rfl rfl (by simp;rfl)
        refine wa_ (wc_region (w_ (bx (h:=w_ (a_ (h:=wo_nil (e_ (h:=aft_normal (wa_ (wc_region (w_ (f_ (h:=w_ (l_ (h:=w_ (m_ (h:=?_)))))))))))))))))
        first | refine ip (hc:=mkf_Frs 1 (outN pl node m sf z ep).2.1 (by omega) (by omega)) (h:=?_) | refine iq (hc:=mkf_Frs 1 (outN pl node m sf z ep).2.1 (by omega) (by omega)) (h:=?_)
        refine w_ (a_ (h:=wo_nil (e_ (h:=aft_normal (wa_ (wc_region (w_ (f_ (h:=w_ (l_ (h:=w_ (m_ (h:=?_)))))))))))))
        first | refine ip (hc:=mk_I (1 + (cn_Frs (outN pl node m sf z ep).2.1 : Nat)) (outN pl node m sf z ep).2.2 (by omega) (by omega)) (h:=?_) | refine iq (hc:=mk_I (1 + (cn_Frs (outN pl node m sf z ep).2.1 : Nat)) (outN pl node m sf z ep).2.2 (by omega) (by omega)) (h:=?_)
        refine w_ (a_ (h:=wo_nil (e_ (h:=aft_normal (wa_ (wc_region (w_ (m_ (h:=w_ (a_ (h:=wo_nil (e_ (h:=aft_normal (wc_ret (?_)))))))))))))))
        exact ⟨by simp,_,rfl,rfl,rfl⟩
       refine ⟨_,(by (simp;rfl)),?_⟩
       refine w_ (a_ (h:=wo_nil (e_ (h:=aft_normal (wa_ (wc_region (w_ (a_ (h:=wo_nil (e_ (h:=aft_normal (wa_ (wc_region (w_ (l_ (h:=w_ (m_ (h:=?_))))))))))))))))))
       refine w_ (ca (hc:=e_heldFrR (outN pl node m sf z ep).1 1 (outN pl node m sf z ep).2.1 (outN pl node m sf z ep).2.2.length (by omega) (by omega)) (h:=w_ (a_ (h:=wo_nil (e_ (h:=aft_normal (wa_ (wa_ (wc_region (w_ (m_ (h:=w_ (b_ (h:=wo_nil (e_ (h:=aft_normal (?_)))))))))))))))))
       refine c_ (h1:=?_) (h2:=?_)
       rotate_right 1
       focus
        intro c8
        first
        | exact dn c8
        | (
         have d8 := c8;try simp at d8
         refine wc_skip (?_)
         )
       rotate_right 1
       focus
        intro c8
        first
        | exact dn c8
        | (
         have d8 := c8;try simp at d8
         refine wa_ (wc_region (w_ (a_ (h:=wo_nil (e_ (h:=aft_normal (wc_ret (?_))))))))
         )
       all_goals first
       | refine aft_ret ?_
       | (
        refine aft_normal ?_
        refine wa_ (wa_ (wc_region (w_ (m_ (h:=w_ (m_ (h:=w_ (bE (h:=wo_nil (e_ (h:=aft_normal (?_))))))))))))
        refine c_ (h1:=?_) (h2:=?_)
        rotate_right 1
        focus
         intro c9
         first
         | exact dn c9
         | (
          have d9 := c9;try simp at d9
          refine wc_skip (?_)
          )
        rotate_right 1
        focus
         intro c9
         first
         | exact dn c9
         | (
          have d9 := c9;try simp at d9
          refine wa_ (wc_region (w_ (a_ (h:=wo_nil (e_ (h:=aft_normal (wc_ret (?_))))))))
          )
        all_goals first
        | refine aft_ret ?_
        | (
         refine aft_normal ?_
         refine wa_ (wc_region (w_ (m_ (h:=w_ (ca (hc:=e_toNS pl 0 h1 h2) (h:=w_ (m_ (h:=w_ (m_ (h:=w_ (m_ (h:=w_ (m_ (h:=w_ (ca (hc:=to_Ets z hw) (h:=w_ (m_ (h:=w_ (ca (hc:=e_sndI pl node m sf z ep h1 h2 hw) (h:=w_ (al (h:=?_))))))))))))))))))))))
         refine w0 (s_ (h:=wo_nil (e_ (h:=aft_normal (wa_ (wa_ (wc_region (w_ (l_ (h:=w_ (l_ (h:=w_ (ca (hc:=e_eqFrR (outN pl node m sf z ep) (outN pl node m sf z ep) (by omega) (by omega) (by omega) (by omega)) (h:=w_ (u_ (h:=wo_nil (e_ (h:=aft_normal (?_)))))))))))))))))))
         refine c_ (h1:=?_) (h2:=?_)
         rotate_right 1
         focus
          intro c10
          first
          | exact dn c10
          | (
           have d10 := c10;try simp at d10
           refine wc_skip (?_)
           )
         rotate_right 1
         focus
          intro c10
          first
          | exact dn c10
          | (
           have d10 := c10;try simp at d10
           refine wa_ (wc_region (w_ (a_ (h:=wo_nil (e_ (h:=aft_normal (wc_ret (?_))))))))
           )
         all_goals first
         | refine aft_ret ?_
         | (
          refine aft_normal ?_
          refine wa_ (wc_region (w_ (a_ (h:=wo_nil (e_ (h:=aft_normal (wa_ (wc_region (w_ (l_ (h:=w_ (m_ (h:=w_ (ca (hc:=e_heldFrR (outN pl node m sf z ep).1 1 (outN pl node m sf z ep).2.1 (outN pl node m sf z ep).2.2.length (by omega) (by omega)) (h:=w_ (a_ (h:=wo_nil (e_ (h:=?_)))))))))))))))))))
          refine aft_normal (wa_ (wa_ (wc_region (w_ (m_ (h:=w_ (b_ (h:=wo_nil (e_ (h:=aft_normal (?_)))))))))))
          refine c_ (h1:=?_) (h2:=?_)
          rotate_right 1
          focus
           intro c11
           first
           | exact dn c11
           | (
            have d11 := c11;try simp at d11
            refine wc_skip (?_)
            )
          rotate_right 1
          focus
           intro c11
           first
           | exact dn c11
           | (
            have d11 := c11;try simp at d11
            refine wa_ (wc_region (w_ (a_ (h:=wo_nil (e_ (h:=aft_normal (wc_ret (?_))))))))
            )
          all_goals first
          | refine aft_ret ?_
          | (
           refine aft_normal ?_
           refine wa_ (wa_ (wc_region (w_ (m_ (h:=w_ (m_ (h:=w_ (bE (h:=wo_nil (e_ (h:=aft_normal (?_))))))))))))
           refine c_ (h1:=?_) (h2:=?_)
           rotate_right 1
           focus
            intro c12
            first
            | exact dn c12
            | (
             have d12 := c12;try simp at d12
             refine wc_skip (?_)
             )
           rotate_right 1
           focus
            intro c12
            first
            | exact dn c12
            | (
             have d12 := c12;try simp at d12
             refine wa_ (wc_region (w_ (a_ (h:=wo_nil (e_ (h:=aft_normal (wc_ret (?_))))))))
             )
           all_goals first
           | refine aft_ret ?_
           | (
            refine aft_normal ?_
            refine wa_ (wc_region (w_ (a_ (h:=wo_nil (e_ (h:=aft_normal (wc_ret (?_))))))))
            )
           )
          )
         )
        )
       )
      )
     )
    )
   )
  )
 all_goals (refine fin_ (hr:=(res_tmp rfl res_nil)) (h:=?_);(focus (simp)))
end Go.Proofs.Ytbcgenkegnmkhaa.Ev
