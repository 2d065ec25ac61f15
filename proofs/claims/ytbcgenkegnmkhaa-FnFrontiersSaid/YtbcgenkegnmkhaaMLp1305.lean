/- Part 5 of the proof that the law named in the last part returns true at every argument: an evaluator of the program, shown sound, and its runs. No further conditions. -/
import Derived.Test.YtbcgenkegnmkhaaMLp1304
namespace Go.Proofs.Ytbcgenkegnmkhaa.Ev
open Go
set_option maxRecDepth 100000
set_option linter.unusedSimpArgs false
set_option linter.unusedVariables false
set_option maxHeartbeats 2000000
theorem ctsR_right {pl : List Nd} : ∀ {l : List Ct} {p : Option Ct},ctsR pl p l = 0→∀ c∈l,rightC pl c = true∧c.n ≠ 0
  | [],p,_,c,hc => by cases hc
  | x :: r,p,h,c,hc => by
    unfold ctsR at h
    split at h
    · cases h
    · rename_i h1
      split at h
      · cases h
      · rcases List.mem_cons.1 hc with rfl | hc
        · simp at h1;exact h1
        · exact ctsR_right h c hc
theorem ctsF_right {pl : List Nd} {l : List Ct} (h : ctsF pl l = 0) : ∀ c∈l,rightC pl c = true∧c.n ≠ 0 := by
  unfold ctsF at h
  split at h
  · cases h
  · exact ctsR_right h
theorem right_pl {pl : List Nd} {c : Ct} (h : rightC pl c = true) : 0≤c.pl∧c.pl < 2 * pl.length∧0≤c.ep := by
  simp [rightC,isPl,inI] at h;omega
def brings (pl : List Nd) (to : Int) (c : Ct) : Bool := decide (0 < c.n) && leadsF pl to (2 * pl.length) c.pl
def frF (P : Ct→Bool) : List Ct→Option Int→Option Int
  | [],o => o
  | c :: r,o => frF P r (if P c = true∧(o.elim true fun e => decide (c.ep < e)) = true then some c.ep else o)
theorem frF_t {P : Ct→Bool} {c : Ct} {r : List Ct} {o : Option Int} (h : P c = true) (h2 : (o.elim true fun e => decide (c.ep < e)) = true) : frF P (c :: r) o = frF P r (some c.ep) := by rw [frF,if_pos ⟨h,h2⟩]
theorem frF_f {P : Ct→Bool} {c : Ct} {r : List Ct} {o : Option Int} (h : ¬ (P c = true∧(o.elim true fun e => decide (c.ep < e)) = true)) : frF P (c :: r) o = frF P r o := by rw [frF,if_neg h]
theorem l_frI (pl : List Nd) (to : Int) (l : List Ct) (hp : pl.length < 2000000) (hk : okN pl) (W : Wf pl) (hl : l.length < 2000000) (hr : ∀ c∈l,rightC pl c = true∧c.n ≠ 0) : ∀ x : Nat × (Option Int),(x.1≤l.length)→∀ s,normE 3 (some [0,2,8,9,12,13,14]) s = ⟨[(0,.lst false 0 (nds false 0 pl)),(2,.int .i64 to),(8,.int .i64 (x.2.getD 0)),(9,.bool x.2.isSome),(12,.lst false 0 (cts l)),(13,.int .i64 l.length),(14,.int .i64 x.1)],[],3⟩ →
 oc.loop 48 3 s = some (.exit 0,⟨[(8,.int .i64 ((frF (brings pl to) (l.drop x.1) x.2).getD 0)),(9,.bool (frF (brings pl to) (l.drop x.1) x.2).isSome)],[],3⟩) := by
 refine loop_ind (σ:=Nat × (Option Int)) (fun x => l.length - x.1) _ (fun x => ⟨[(0,.lst false 0 (nds false 0 pl)),(2,.int .i64 to),(8,.int .i64 (x.2.getD 0)),(9,.bool x.2.isSome),(12,.lst false 0 (cts l)),(13,.int .i64 l.length),(14,.int .i64 x.1)],[],3⟩) _ ?_
 rintro ⟨i,o⟩ hi ih s hs
 simp only at hi
 refine loop_s cd48 rfl rfl hs ?_
 refine wa_ (wc_region (w_ (b_ (h:=wo_nil (e_ (h:=aft_normal (wa_ (?_))))))))
 refine c_ (h1:=?_) (h2:=?_)
 rotate_right 1
 focus
  intro c1
  first
  | exact dn c1
  | (
   have d1 := c1;try simp at d1
   refine wc_exit (?_)
   )
 rotate_right 1
 focus
  intro c1
  first
  | exact dn c1
  | (
   have d1 := c1;try simp at d1
   have hw := wrap_succ (i:=i) (by omega);obtain ⟨c,hx,e1,g1⟩ := cts_cut (l:=l) (i:=i) (by omega);obtain ⟨b1,b2,b3⟩ := right_pl (hr c (List.mem_of_getElem? hx)).1
   refine wc_skip (?_)
   )
 all_goals first
 | refine aft_exit ?_
 | (
  refine aft_normal ?_
  refine wa_ (wc_block (wa_ (wc_region (w_ (x_ (h:=w_ (l_ (h:=w_ (al (h:=w0 (s_ (h:=wo_nil (e_ (h:=aft_normal (wa_ (wc_region (?_)))))))))))))))))
  refine w_ (f_ (h:=w_ (l_ (h:=w_ (b_ (h:=w_ (m_ (h:=?_))))))))
  refine gw_ (h1:=?_) (h2:=?_)
  rotate_right 1
  focus
   intro c2
   first
   | exact dn c2
   | (
    have d2 := c2;try simp at d2
    refine go_ (h:=go_ (h:=go_ (h:=go_ (h:=go_ (h:=?_)))))
    )
  rotate_right 1
  focus
   intro c2
   first
   | exact dn c2
   | (
    have d2 := c2;try simp at d2
    refine g_ (h:=w_ (m_ (h:=g_ (h:=w_ (f_ (h:=g_ (h:=w_ (l_ (h:=g_ (h:=w_ (m_ (h:=g_ (h:=w_ (ca (hc:=e_leads pl to hp hk W (2 * pl.length) c.pl (by omega) (by omega) (by omega)) (h:=?_)))))))))))))))
    )
  all_goals
   refine w_ (pk (h:=w_ (m_ (h:=?_))))
   refine gw_ (h1:=?_) (h2:=?_)
   rotate_right 1
   focus
    intro c3
    first
    | exact dn c3
    | (
     have d3 := c3;try simp at d3
     refine go_ (h:=go_ (h:=go_ (h:=?_)))
     )
   rotate_right 1
   focus
    intro c3
    first
    | exact dn c3
    | (
     have d3 := c3;try simp at d3
     refine g_ (h:=w_ (m_ (h:=g_ (h:=w_ (u_ (h:=g_ (h:=w_ (m_ (h:=?_)))))))))
     )
   all_goals
    first
    | (
     skip
     refine goN (h:=goN (h:=goN (h:=goN (h:=?_))))
     )
    | (
     refine gw_ (h1:=?_) (h2:=?_)
     rotate_right 1
     focus
      intro c4
      first
      | exact dn c4
      | (
       have d4 := c4;try simp at d4
       refine go_ (h:=go_ (h:=go_ (h:=go_ (h:=?_))))
       )
     rotate_right 1
     focus
      intro c4
      first
      | exact dn c4
      | (
       have d4 := c4;try simp at d4
       refine g_ (h:=w_ (f_ (h:=g_ (h:=w_ (l_ (h:=g_ (h:=w_ (m_ (h:=g_ (h:=w_ (b_ (h:=?_))))))))))))
       )
     )
    all_goals
     first
     | (
      skip
      refine g_ (h:=w_ (pk (h:=?_)))
      )
     | (
      skip
      refine go_ (h:=?_)
      )
     all_goals
      refine w_ (pk (h:=wo_nil (e_ (h:=?_))))
  all_goals first
  | (
   refine aft_normal ?_
   refine c_ (h1:=?_) (h2:=?_)
   rotate_right 1
   focus
    intro c5
    first
    | exact dn c5
    | (
     have d5 := c5;try simp at d5
     refine wc_skip (?_)
     )
   rotate_right 1
   focus
    intro c5
    first
    | exact dn c5
    | (
     have d5 := c5;try simp at d5
     refine wc_region (w_ (f_ (h:=w_ (l_ (h:=w_ (a_ (h:=w_ (a_ (h:=wo_nil (e_ (h:=?_)))))))))))
     )
   )
  all_goals refine blk_normal ?_
  all_goals first
  | (
   refine aft_normal ?_
   refine wc_region (w_ (b_ (h:=w_ (m_ (h:=wo_nil (e_ (h:=?_)))))))
   )
  )
 all_goals first
 | (refine (ih ((i + 1,some c.ep)) (by simp;omega) ?_ _ ?_).trans ?_;(focus (first | omega | (simp;done) | (simp;omega)));(focus (simp [normE,hw];done));(focus (simp only [e1];rw [frF_t (by simp [brings,d2,d3]) (by first | (subst d4;rfl) | (obtain ⟨e,rfl⟩ := Option.isSome_iff_exists.1 d4;simp at d5 ⊢;omega))])))
 | (refine (ih ((i + 1,o)) (by simp;omega) ?_ _ ?_).trans ?_;(focus (first | omega | (simp;done) | (simp;omega)));(focus (simp [normE,hw];done));(focus (simp only [e1];rw [frF_f (by first | (simp [brings,Int.not_lt.2 d2];done) | (simp [brings,d3];done) | (obtain ⟨e,rfl⟩ := Option.isSome_iff_exists.1 d4;simp at d5 ⊢;intro _;omega))])))
 | (apply end_leaf (ex:=(Ext.exit 0)) 3 (some [8,9]);(focus (simp [normE];rfl));(focus (simp only [List.drop_eq_nil_of_le (show l.length≤i by omega),frF])))
def frN (pl : List Nd) (l : List Ct) (to : Int) : Option Int := frF (brings pl to) l none
theorem e_frI (pl : List Nd) (l : List Ct) (to : Int) (hp : pl.length < 2000000) (hk : okN pl) (W : Wf pl) (hl : l.length < 2000000) (hr : ∀ c∈l,rightC pl c = true∧c.n ≠ 0) : oc.call 48 [.lst false 0 (nds false 0 pl),.lst false 0 (cts l),.int .i64 to] = some (.tup [.int .i64 ((frN pl l to).getD 0),.bool (frN pl l to).isSome],[]) := by
 refine fun_s rfl cd48 rfl rfl rfl (by simp;rfl) (by simp;rfl) ?_
 refine wa_ (wc_region (w_ (a_ (h:=w_ (a_ (h:=wo_nil (e_ (h:=aft_normal (wa_ (wc_region (w_ (a_ (h:=w_ (a_ (h:=wo_nil (e_ (h:=aft_normal (?_))))))))))))))))))
 refine wa_ (wa_ (wc_region (w_ (m_ (h:=w_ (le (h:=w_ (m_ (h:=wo_nil (e_ (h:=aft_normal (wc_block (?_)))))))))))))
 refine wc_loop (l_frI pl to l hp hk W hl hr (0,none) (by simp) _ (by simp [normE])) ?_
 refine blk_exit (aft_normal (wa_ (wc_region (w_ (m_ (h:=w_ (m_ (h:=w_ (a_ (h:=w_ (a_ (h:=wo_nil (e_ (h:=aft_normal (wc_ret (?_))))))))))))))))
 all_goals (refine fin_ (hr:=(res_tmp rfl (res_tmp rfl res_nil))) (h:=?_);(focus (simp [frN])))
def pastN (pl : List Nd) (l : List Ct) (to ep : Int) : Bool := (frN pl l to).elim true fun e => decide (ep < e)
theorem e_isPast (pl : List Nd) (l : List Ct) (to ep : Int) (hp : pl.length < 2000000) (hk : okN pl) (W : Wf pl) (hl : l.length < 2000000) (hr : ∀ c∈l,rightC pl c = true∧c.n ≠ 0) : oc.call 49 [.lst false 0 (nds false 0 pl),.lst false 0 (cts l),.int .i64 to,.int .i64 ep] = some (.bool (pastN pl l to ep),[]) := by
 refine fun_s rfl cd49 rfl rfl rfl (by simp;rfl) (by simp;rfl) ?_
 refine wa_ (wc_region (w_ (a_ (h:=wo_nil (e_ (h:=aft_normal (wa_ (wc_region (w_ (m_ (h:=w_ (m_ (h:=w_ (m_ (h:=w_ (ca (hc:=e_frI pl l to hp hk W hl hr) (h:=w_ (m_ (h:=?_)))))))))))))))))))
 refine w_ (ex (h:=w_ (ex (h:=w_ (a_ (h:=w_ (a_ (h:=wo_nil (e_ (h:=aft_normal (wa_ (wc_region (w_ (m_ (h:=w_ (u_ (h:=w_ (m_ (h:=?_)))))))))))))))))))
 refine gw_ (h1:=?_) (h2:=?_)
 rotate_right 1
 focus
  intro c1
  refine go_ (h:=go_ (h:=go_ (h:=?_)))
 rotate_right 1
 focus
  intro c1
  refine g_ (h:=w_ (m_ (h:=g_ (h:=w_ (m_ (h:=g_ (h:=w_ (b_ (h:=?_)))))))))
 all_goals
  refine w_ (pk (h:=w_ (a_ (h:=wo_nil (e_ (h:=?_))))))
 all_goals first
 | (
  refine aft_normal ?_
  refine wc_ret (?_)
  )
 all_goals (refine fin_ (hr:=(res_tmp rfl res_nil)) (h:=?_);(focus (clear hk W hr;unfold pastN;cases h : frN pl l to <;> simp [h] at *)))
def pastAtN (pl : List Nd) (l : List Ct) (to ep : Int) : Bool := decide (ctsN pl l = 0) && (isPl pl to && pastN pl l to ep)
theorem ctsN_zero {pl : List Nd} {l : List Ct} (h : ctsN pl l = 0) : (lookN pl).2 = 0∧ctsF pl l = 0 := by
  unfold ctsN at h;split at h
  · exact ⟨‹_›,h⟩
  · exact absurd h ‹_›
theorem e_pastAtI (pl : List Nd) (l : List Ct) (to ep : Int) (hp : pl.length < 2000000) (hk : okN pl) (hl : l.length < 2000000) : oc.call 17 [.lst false 0 (nds false 0 pl),.lst false 0 (cts l),.int .i64 to,.int .i64 ep] = some (.bool (pastAtN pl l to ep),[]) := by
 refine fun_s rfl cd17 rfl rfl rfl (by simp;rfl) (by simp;rfl) ?_
 refine wa_ (wc_region (w_ (a_ (h:=wo_nil (e_ (h:=aft_normal (wa_ (wc_region (w_ (m_ (h:=w_ (m_ (h:=w_ (ca (hc:=e_ctsFI pl l hp hk) (h:=w_ (bE (h:=w_ (m_ (h:=?_)))))))))))))))))))
 refine gw_ (h1:=?_) (h2:=?_)
 rotate_right 1
 focus
  intro c1
  first
  | exact dn c1
  | (
   have d1 := c1;try simp at d1
   refine go_ (h:=go_ (h:=go_ (h:=?_)))
   )
 rotate_right 1
 focus
  intro c1
  first
  | exact dn c1
  | (
   have d1 := c1;try simp at d1
   refine g_ (h:=w_ (m_ (h:=g_ (h:=w_ (m_ (h:=g_ (h:=w_ (ca (hc:=e_isPlace pl _ hp) (h:=?_)))))))))
   )
 all_goals
  refine w_ (pk (h:=w_ (m_ (h:=?_))))
  refine gw_ (h1:=?_) (h2:=?_)
  rotate_right 1
  focus
   intro c2
   first
   | exact dn c2
   | (
    have d2 := c2;try simp at d2
    refine go_ (h:=go_ (h:=go_ (h:=go_ (h:=go_ (h:=?_)))))
    )
  rotate_right 1
  focus
   intro c2
   first
   | exact dn c2
   | (
    have d2 := c2;try simp at d2
    refine g_ (h:=w_ (m_ (h:=g_ (h:=w_ (m_ (h:=g_ (h:=w_ (m_ (h:=g_ (h:=w_ (m_ (h:=g_ (h:=w_ (ca (hc:=e_isPast pl l to ep hp hk (look_wf (ctsN_zero d1).1) hl (ctsF_right (ctsN_zero d1).2)) (h:=?_)))))))))))))))
    )
  all_goals
   refine w_ (pk (h:=w_ (a_ (h:=wo_nil (e_ (h:=?_))))))
 all_goals first
 | (
  refine aft_normal ?_
  refine wc_ret (?_)
  )
 all_goals (refine fin_ (hr:=(res_tmp rfl res_nil)) (h:=?_);(focus (clear hk;simp [pastAtN] at * <;> grind)))
def frAtN (pl : List Nd) (l : List Ct) (to : Int) : Int × Int := if ctsN pl l = 0 then (if isPl pl to = true then (frN pl l to).elim (4,0) fun e => (0,e) else (3,0)) else (ctsN pl l,0)
theorem e_frAtI (pl : List Nd) (l : List Ct) (to : Int) (hp : pl.length < 2000000) (hk : okN pl) (hl : l.length < 2000000) : oc.call 16 [.lst false 0 (nds false 0 pl),.lst false 0 (cts l),.int .i64 to] = some (.agg [.int .i64 (frAtN pl l to).1,.int .i64 (frAtN pl l to).2],[]) := by
 refine fun_s rfl cd16 rfl rfl rfl (by simp;rfl) (by simp;rfl) ?_
 refine wa_ (wc_region (w_ (al (h:=wo_nil (e_ (h:=aft_normal (wa_ (wa_ (wc_region (w_ (m_ (h:=w_ (m_ (h:=w_ (ca (hc:=e_ctsFI pl l hp hk) (h:=w_ (a_ (h:=?_))))))))))))))))))
 refine wo_nil (e_ (h:=aft_normal (wa_ (wc_region (w_ (m_ (h:=w_ (bE (h:=wo_nil (e_ (h:=aft_normal (?_))))))))))))
 refine c_ (h1:=?_) (h2:=?_)
 rotate_right 1
 focus
  intro c1
  first
  | exact dn c1
  | (
   have d1 := c1;try simp at d1
   refine wc_skip (?_)
   )
 rotate_right 1
 focus
  intro c1
  first
  | exact dn c1
  | (
   have d1 := c1;try simp at d1
   refine wa_ (wc_region (w_ (m_ (h:=w_ (bd (h:=w0 (s_ (h:=wo_nil (e_ (h:=aft_normal (wc_ret (?_))))))))))))
   )
 all_goals first
 | refine aft_ret ?_
 | (
  refine aft_normal ?_
  refine wa_ (wa_ (wc_region (w_ (m_ (h:=w_ (m_ (h:=w_ (ca (hc:=e_isPlace pl _ hp) (h:=w_ (u_ (h:=wo_nil (e_ (h:=aft_normal (?_))))))))))))))
  refine c_ (h1:=?_) (h2:=?_)
  rotate_right 1
  focus
   intro c2
   first
   | exact dn c2
   | (
    have d2 := c2;try simp at d2
    refine wc_skip (?_)
    )
  rotate_right 1
  focus
   intro c2
   first
   | exact dn c2
   | (
    have d2 := c2;try simp at d2
    refine wa_ (wc_region (w_ (bd (h:=w0 (s_ (h:=wo_nil (e_ (h:=aft_normal (wc_ret (?_))))))))))
    )
  all_goals first
  | refine aft_ret ?_
  | (
   refine aft_normal ?_
   refine wa_ (wc_region (w_ (m_ (h:=w_ (m_ (h:=w_ (m_ (h:=w_ (ca (hc:=e_frI pl l to hp hk (look_wf (ctsN_zero d1).1) hl (ctsF_right (ctsN_zero d1).2)) (h:=w_ (m_ (h:=w_ (ex (h:=w_ (ex (h:=w_ (a_ (h:=w_ (a_ (h:=wo_nil (e_ (h:=?_))))))))))))))))))))))
   refine aft_normal (wa_ (wa_ (wc_region (w_ (m_ (h:=w_ (u_ (h:=wo_nil (e_ (h:=aft_normal (?_)))))))))))
   refine c_ (h1:=?_) (h2:=?_)
   rotate_right 1
   focus
    intro c3
    first
    | exact dn c3
    | (
     have d3 := c3;try simp at d3
     refine wc_skip (?_)
     )
   rotate_right 1
   focus
    intro c3
    first
    | exact dn c3
    | (
     have d3 := c3;try simp at d3
     refine wa_ (wc_region (w_ (bd (h:=w0 (s_ (h:=wo_nil (e_ (h:=aft_normal (wc_ret (?_))))))))))
     )
   all_goals first
   | refine aft_ret ?_
   | (
    refine aft_normal ?_
    refine wa_ (wc_region (w_ (m_ (h:=w_ (bd (h:=w0 (s_ (h:=wo_nil (e_ (h:=aft_normal (wc_ret (?_))))))))))))
    )
   )
  )
 all_goals (refine fin_ (hr:=(res_cell (tys_ok.zero _ _ rfl) rfl (by simp;rfl) (by rfl) res_nil)) (h:=?_);(focus (clear hk;unfold frAtN;cases h : frN pl l to <;> simp_all)))
def widN (pl : List Nd) : List Int := (lookN pl).1
theorem lookR_good {pl : List Nd} (hk : okN pl) (hp : pl.length < 2000000) : ∀ (r : List Nd) (ws : List Int),r = pl.drop ws.length→Good pl ws→(∀ k : Nat,k < ws.length→1≤at0 ws k∧at0 ws k≤4)→(lookR pl r ws).2 = 0→Good pl (lookR pl r ws).1∧(lookR pl r ws).1.length = max pl.length ws.length∧∀ k : Nat,k < (lookR pl r ws).1.length→1≤at0 (lookR pl r ws).1 k∧at0 (lookR pl r ws).1 k≤4
  | [],ws,e,G,hb,_ => by
    have : pl.length≤ws.length := by
      have := congrArg List.length e;simp at this;omega
    unfold lookR
    exact ⟨G,by simp;omega,hb⟩
  | d :: r,ws,e,G,hb,h => by
    unfold lookR at h ⊢
    have hx : pl[ws.length]? = some d := by
      have := congrArg (fun l => l[0]?) e
      simpa using this.symm
    have hlt := (List.getElem?_eq_some_iff.mp hx).1
    have hr : r = pl.drop (ws.length + 1) := by
      have := congrArg List.tail e
      simpa [List.tail_drop] using this
    split at h
    · rename_i hs
      rw [if_pos hs]
      have hf := step_ok (by omega) hs
      have hw : 1≤widthN d ws∧widthN d ws≤4 := by
        obtain ⟨f1,f2⟩ := hf
        have ha : d.op ≠ 1→1≤at0 ws d.a∧at0 ws d.a≤4 := fun ho => by
          have := f1 ho
          have := hb d.a.toNat (by omega)
          rwa [Int.toNat_of_nonneg (by omega)] at this
        have hb2 : d.op = 4∨d.op = 6→1≤at0 ws d.b∧at0 ws d.b≤4 := fun ho => by
          have := f2 ho
          have := hb d.b.toNat (by omega)
          rwa [Int.toNat_of_nonneg (by omega)] at this
        have h0 : faultN d ws = 0 := by
          unfold stepC at hs
          split at hs
          · cases hs
          · split at hs
            · cases hs
            · split at hs
              · cases hs
              · exact hs
        unfold faultN at h0
        unfold widthN
        by_cases o1 : d.op = 1
        · rw [if_pos o1] at h0 ⊢
          simp [inI] at h0;omega
        · rw [if_neg o1] at h0 ⊢
          have ha := ha o1
          by_cases o2 : d.op = 2
          · rw [if_neg (by omega),if_neg (by omega),if_neg (by simp [inI];omega)];exact ha
          · rw [if_neg o2] at h0
            by_cases o3 : d.op = 3
            · rw [if_pos o3] at h0 ⊢
              have : inI d.cells.length 1 4 = true := by
                cases hi : inI d.cells.length 1 4 with
                | true => rfl
                | false => rw [hi] at h0;simp at h0
              simp [inI] at this;omega
            · rw [if_neg o3] at h0 ⊢
              by_cases o4 : d.op = 4
              · rw [if_neg (by omega),if_neg (by simp [inI];omega)];exact ha
              · rw [if_neg o4] at h0
                by_cases o6 : d.op = 6
                · have hb2 := hb2 (.inr o6)
                  rw [if_pos o6] at h0 ⊢
                  have w1 : IntKind.i64.wrap (at0 ws d.a + at0 ws d.b) = at0 ws d.a + at0 ws d.b := wrap_id (by omega) (by omega)
                  have hi : inI d.col 1 (min (at0 ws d.a) (at0 ws d.b)) = true := by
                    cases hi : inI d.col 1 (min (at0 ws d.a) (at0 ws d.b)) with
                    | true => rfl
                    | false => rw [hi] at h0;simp at h0
                  rw [hi,if_pos rfl] at h0
                  have hle : ¬ 4 < widthN d ws := fun hc => by rw [if_pos hc] at h0;cases h0
                  unfold widthN at hle
                  rw [if_neg o1,if_neg o3,if_pos o6] at hle
                  simp only [inI,Bool.and_eq_true,decide_eq_true_eq] at hi
                  have w2 : IntKind.i64.wrap (at0 ws d.a + at0 ws d.b - d.col) = at0 ws d.a + at0 ws d.b - d.col := wrap_id (by omega) (by omega)
                  rw [w1,w2] at hle ⊢
                  omega
                · rw [if_neg o6] at h0 ⊢
                  by_cases o7 : d.op = 7
                  · rw [if_pos o7] at h0
                    have hi : inI d.col 0 (min (at0 ws d.a) 3) = true := by
                      cases hi : inI d.col 0 (min (at0 ws d.a) 3) with
                      | true => rfl
                      | false => rw [hi] at h0;simp at h0
                    simp only [inI,Bool.and_eq_true,decide_eq_true_eq] at hi
                    rw [if_pos (by simp [inI];omega),wrap_id (by omega) (by omega)];omega
                  · rw [if_neg o7] at h0
                    by_cases o8 : 8≤d.op∧d.op≤10
                    · rw [if_pos o8] at h0
                      have hi : inI d.col 0 (IntKind.i64.wrap (at0 ws d.a - 1)) = true := by
                        cases hi : inI d.col 0 (IntKind.i64.wrap (at0 ws d.a - 1)) with
                        | true => rfl
                        | false => rw [hi] at h0;simp at h0
                      rw [wrap_id (by omega) (by omega)] at hi
                      simp only [inI,Bool.and_eq_true,decide_eq_true_eq] at hi
                      rw [if_pos (by simp [inI];omega),wrap_id (by omega) (by omega)];omega
                    · rw [if_neg (by simp [inI];omega)];exact ha
      have key := lookR_good hk hp r (ws ++ [widthN d ws]) (by simpa using hr) (good_snoc hk (by omega) G hx hs) (by
        intro k hk2
        by_cases hc : k < ws.length
        · have := hb k hc
          simp only [at0,List.getD_eq_getElem?_getD,List.getElem?_append_left (show (k : Int).toNat < ws.length by omega)] at this ⊢
          exact this
        · have : k = ws.length := by simp at hk2;omega
          subst this
          simpa [at0,List.getD_eq_getElem?_getD] using hw) h
      refine ⟨key.1,?_,key.2.2⟩
      rw [key.2.1];simp;omega
    · exact absurd h ‹_›
theorem look_good {pl : List Nd} (hk : okN pl) (h : (lookN pl).2 = 0) : Good pl (widN pl)∧(widN pl).length = pl.length∧(∀ k : Nat,k < pl.length→1≤at0 (widN pl) k∧at0 (widN pl) k≤4)∧1≤pl.length∧pl.length≤8 := by
  unfold widN
  unfold lookN at h ⊢
  split at h
  · cases h
  · rename_i hl
    rw [if_neg hl]
    simp [inI] at hl
    split at h
    · rename_i h0
      rw [if_pos h0]
      have := lookR_good hk (by omega) pl [] rfl (good_nil pl) (fun k hk => by simp at hk) h0
      have hlen : (lookR pl pl []).1.length = pl.length := by rw [this.2.1];simp
      exact ⟨this.1,hlen,fun k hk2 => this.2.2 k (by omega),by omega,by omega⟩
    · exact absurd h ‹_›
end Go.Proofs.Ytbcgenkegnmkhaa.Ev
namespace Go.Proofs.Ytbcgenkegnmkhaa.Ev
open Go
set_option maxRecDepth 100000
set_option linter.unusedSimpArgs false
set_option linter.unusedVariables false
set_option maxHeartbeats 2000000
end Go.Proofs.Ytbcgenkegnmkhaa.Ev
namespace Go.Proofs.Ytbcgenkegnmkhaa.Ev
open Go
set_option maxRecDepth 100000
set_option linter.unusedSimpArgs false
set_option linter.unusedVariables false
set_option maxHeartbeats 2000000
theorem cellsAll_map {α : Type} {f : α→V} {k : Nat} (h : ∀ x,(f x).cells = k) : ∀ l : List α,V.cellsAll k (l.map f) = true
  | [] => rfl
  | x :: l => by simp only [List.map_cons,V.cellsAll,List.all_cons,h,decide_true,Bool.true_and];exact cellsAll_map h l
@[simp] theorem cellsAll_ints (l : List Int) : V.cellsAll 1 (ints l) = true := cellsAll_map (f:=.int .i64) (fun _ => rfl) l
@[simp] theorem cellsAll_ets (t : Bool) (l : List Et) : V.cellsAll 2 (ets t l) = true := cellsAll_map (f:=Et.v t) (fun _ => rfl) l
@[simp] theorem cellsAll_cts (l : List Ct) : V.cellsAll 3 (cts l) = true := cellsAll_map (f:=Ct.v) (fun _ => rfl) l
@[simp] theorem cellsAll_frs (t : Bool) (l : List Fr) : V.cellsAll 6 (frs t l) = true := cellsAll_map (f:=Fr.v t) (fun _ => rfl) l
@[simp] theorem cellsAll_nds (t : Bool) (s : Nat) (l : List Nd) : V.cellsAll 7 (nds t s l) = true := cellsAll_map (f:=fun d : Nd => d.v t s) (fun _ => rfl) l
end Go.Proofs.Ytbcgenkegnmkhaa.Ev
namespace Go.Proofs.Ytbcgenkegnmkhaa.Ev
set_option linter.unusedSectionVars false
section
variable {α : Type} [Inhabited α]
def nth (l : List α) (i : Nat) : α := l[i]?.getD default
theorem nth_get {l : List α} {i : Nat} (h : i < l.length) : l[i]? = some (nth l i) := by
  unfold nth;rw [List.getElem?_eq_getElem h];rfl
theorem nth_set {l : List α} {i k : Nat} {x : α} (h : i < l.length) : nth (l.set i x) k = if k = i then x else nth l k := by
  unfold nth
  by_cases e : k = i
  · subst e;rw [if_pos rfl,List.getElem?_set_self h];rfl
  · rw [if_neg e,List.getElem?_set_ne (Ne.symm e)]
def swp (l : List α) (i j : Nat) : List α := (l.set i (nth l j)).set j (nth l i)
@[simp] theorem swp_len {l : List α} {i j : Nat} : (swp l i j).length = l.length := by simp [swp]
theorem swp_nth {l : List α} {i j k : Nat} (hi : i < l.length) (hj : j < l.length) : nth (swp l i j) k = if k = j then nth l i else if k = i then nth l j else nth l k := by
  unfold swp
  rw [nth_set (by simpa using hj),nth_set hi]
theorem swp_perm {l : List α} {i j : Nat} (hi : i < l.length) (hj : j < l.length) : (swp l i j).Perm l := by
  have h : ((l.set i l[j]).set j l[i]).Perm l := List.set_set_perm hi hj
  have e1 : nth l j = l[j] := by unfold nth;rw [List.getElem?_eq_getElem hj];rfl
  have e2 : nth l i = l[i] := by unfold nth;rw [List.getElem?_eq_getElem hi];rfl
  unfold swp;rw [e1,e2];exact h
structure Wit (a b : Nat) (l r : List α) : Prop where
  perm : r.Perm l
  out : ∀ k,k < a∨b≤k→nth r k = nth l k
  mem : ∀ k,a≤k→k < b→∃ i,a≤i∧i < b∧nth r k = nth l i
theorem Wit.len {a b : Nat} {l r : List α} (h : Wit a b l r) : r.length = l.length := h.perm.length_eq
theorem Wit.refl (a b : Nat) (l : List α) : Wit a b l l := ⟨.refl _,fun _ _ => rfl,fun k h1 h2 => ⟨k,h1,h2,rfl⟩⟩
theorem Wit.trans {a b : Nat} {l m r : List α} (h1 : Wit a b l m) (h2 : Wit a b m r) : Wit a b l r :=
  ⟨h2.perm.trans h1.perm,fun k hk => (h2.out k hk).trans (h1.out k hk),fun k ha hb => by
    obtain ⟨i,hi1,hi2,e⟩ := h2.mem k ha hb
    obtain ⟨j,hj1,hj2,e2⟩ := h1.mem i hi1 hi2
    exact ⟨j,hj1,hj2,e.trans e2⟩⟩
theorem Wit.wide {a b a' b' : Nat} {l r : List α} (h : Wit a b l r) (ha : a'≤a) (hb : b≤b') : Wit a' b' l r :=
  ⟨h.perm,fun k hk => h.out k (by omega),fun k h1 h2 => by
    by_cases hk : a≤k∧k < b
    · obtain ⟨i,i1,i2,e⟩ := h.mem k hk.1 hk.2
      exact ⟨i,by omega,by omega,e⟩
    · exact ⟨k,h1,h2,h.out k (by omega)⟩⟩
theorem swp_wit {l : List α} {a b i j : Nat} (hb : b≤l.length) (hi : a≤i) (hi2 : i < b) (hj : a≤j) (hj2 : j < b) : Wit a b l (swp l i j) := by
  refine ⟨swp_perm (by omega) (by omega),fun k hk => ?_,fun k h1 h2 => ?_⟩
  · rw [swp_nth (by omega) (by omega),if_neg (by omega),if_neg (by omega)]
  · rw [swp_nth (by omega) (by omega)]
    split
    · exact ⟨i,hi,hi2,rfl⟩
    · split
      · exact ⟨j,hj,hj2,rfl⟩
      · exact ⟨k,h1,h2,rfl⟩
structure Ordr (lt : α→α→Bool) : Prop where
  asym : ∀ {x y},lt x y = true→lt y x = false
  ntr : ∀ {x y z},lt y x = false→lt z y = false→lt z x = false
def Srt (lt : α→α→Bool) (a b : Nat) (l : List α) : Prop := ∀ i j,a≤i→i≤j→j < b→lt (nth l j) (nth l i) = false
variable {lt : α→α→Bool}
theorem Ordr.rfl' (O : Ordr lt) (x : α) : lt x x = false := by
  cases h : lt x x
  · rfl
  · have := O.asym h;rw [h] at this;cases this
theorem Srt.sub {a b a' b' : Nat} {l : List α} (h : Srt lt a b l) (ha : a≤a') (hb : b'≤b) : Srt lt a' b' l := fun i j h1 h2 h3 => h i j (by omega) h2 (by omega)
theorem Srt.one (O : Ordr lt) {a b : Nat} {l : List α} (h : b≤a + 1) : Srt lt a b l := fun i j h1 h2 h3 => by
  obtain rfl : i = j := by omega
  exact O.rfl' _
theorem Srt.out {a b c d : Nat} {l r : List α} (h : Srt lt c d l) (w : Wit a b l r) (hd : d≤a∨b≤c) : Srt lt c d r := fun i j h1 h2 h3 => by
  rw [w.out i (by omega),w.out j (by omega)]
  exact h i j h1 h2 h3
def bub (lt : α→α→Bool) (a : Nat) : Nat→List α→List α
  | 0,l => l
  | j + 1,l => if a < j + 1∧lt (nth l (j + 1)) (nth l j) = true then bub lt a j (swp l (j + 1) j) else l
theorem bub_wit {a b : Nat} : ∀ {j : Nat} {l : List α},b≤l.length→a≤j→j < b→Wit a b l (bub lt a j l)
  | 0,l,_,_,_ => Wit.refl ..
  | j + 1,l,hb,ha,hj => by
    unfold bub
    split
    · rename_i h
      have w := swp_wit (l:=l) (a:=a) (b:=b) (i:=j + 1) (j:=j) hb ha hj (by omega) (by omega)
      exact w.trans (bub_wit (by simpa using hb) (by omega) (by omega))
    · exact Wit.refl ..
theorem bub_srt (O : Ordr lt) {a b : Nat} : ∀ {j : Nat} {l : List α},b≤l.length→a≤j→j < b→(∀ i k,a≤i→i≤k→k < b→i ≠ j→k ≠ j→lt (nth l k) (nth l i) = false)→(∀ k,j≤k→k < b→lt (nth l k) (nth l j) = false)→Srt lt a b (bub lt a j l)
  | 0,l,hb,ha,hj,h1,h2 => by
    obtain rfl : a = 0 := by omega
    show Srt lt 0 b l
    intro i k hi hik hk
    by_cases e : i = 0
    · subst e;exact h2 k (by omega) hk
    · exact h1 i k hi hik hk e (by omega)
  | j + 1,l,hb,ha,hj,h1,h2 => by
    unfold bub
    split
    · rename_i h
      have hw : ∀ k,nth (swp l (j + 1) j) k = _ := fun k => swp_nth (l:=l) (i:=j + 1) (j:=j) (by omega) (by omega)
      refine bub_srt O (by simpa using hb) (by omega) (by omega) (fun i k hi hik hk e1 e2 => ?_) (fun k hjk hk => ?_)
      · rw [hw,hw,if_neg e1,if_neg e2]
        by_cases ek : k = j + 1
        · subst ek
          rw [if_pos rfl]
          by_cases ei : i = j + 1
          · subst ei;rw [if_pos rfl];exact O.rfl' _
          · rw [if_neg ei];exact h1 i j hi (by omega) (by omega) ei (by omega)
        · rw [if_neg ek]
          by_cases ei : i = j + 1
          · subst ei;rw [if_pos rfl];exact h1 j k (by omega) (by omega) hk (by omega) ek
          · rw [if_neg ei];exact h1 i k hi hik hk ei ek
      · rw [hw,hw,if_pos rfl]
        by_cases ek : k = j
        · subst ek;rw [if_pos rfl];exact O.rfl' _
        · rw [if_neg ek]
          by_cases ek2 : k = j + 1
          · subst ek2;rw [if_pos rfl];exact O.asym h.2
          · rw [if_neg ek2];exact h2 k (by omega) hk
    · rename_i h
      intro i k hi hik hk
      have hj1 : ∀ i,a≤i→i≤j→lt (nth l (j + 1)) (nth l i) = false := fun i hi hij => by
        have hn : lt (nth l (j + 1)) (nth l j) = false := by
          cases hc : lt (nth l (j + 1)) (nth l j)
          · rfl
          · exact absurd ⟨by omega,hc⟩ h
        by_cases e : i = j
        · subst e;exact hn
        · exact O.ntr (h1 i j hi (by omega) (by omega) (by omega) (by omega)) hn
      by_cases ek : k = j + 1
      · subst ek
        by_cases ei : i = j + 1
        · subst ei;exact O.rfl' _
        · exact hj1 i hi (by omega)
      · by_cases ei : i = j + 1
        · subst ei;exact h2 k (by omega) hk
        · exact h1 i k hi hik hk ei ek
def insL (lt : α→α→Bool) (a : Nat) : Nat→Nat→List α→List α
  | 0,_,l => l
  | n + 1,i,l => insL lt a n (i + 1) (bub lt a i l)
theorem insL_ok (O : Ordr lt) {a b : Nat} : ∀ {n i : Nat} {l : List α},i + n = b→a < i→b≤l.length→Srt lt a i l→Wit a b l (insL lt a n i l)∧Srt lt a b (insL lt a n i l)
  | 0,i,l,hn,ha,hb,hs => by
    obtain rfl : i = b := by omega
    exact ⟨Wit.refl ..,hs⟩
  | n + 1,i,l,hn,ha,hb,hs => by
    unfold insL
    have w := bub_wit (lt:=lt) (a:=a) (b:=i + 1) (j:=i) (l:=l) (by omega) (by omega) (by omega)
    have hs2 := bub_srt O (a:=a) (b:=i + 1) (j:=i) (l:=l) (by omega) (by omega) (by omega) (fun p q h1 h2 h3 e1 e2 => hs p q h1 h2 (by omega)) (fun k h1 h2 => by
      obtain rfl : k = i := by omega
      exact O.rfl' _)
    have hr := insL_ok O (a:=a) (b:=b) (n:=n) (i:=i + 1) (l:=bub lt a i l) (by omega) (by omega) (by rw [w.len];exact hb) hs2
    exact ⟨(w.wide (by omega) (by omega)).trans hr.1,hr.2⟩
def ins (lt : α→α→Bool) (a b : Nat) (l : List α) : List α := insL lt a (b - (a + 1)) (a + 1) l
theorem ins_ok (O : Ordr lt) {a b : Nat} {l : List α} (hb : b≤l.length) : Wit a b l (ins lt a b l)∧Srt lt a b (ins lt a b l) := by
  by_cases h : a + 1≤b
  · exact insL_ok O (by omega) (by omega) hb (Srt.one O (by omega))
  · unfold ins
    rw [show b - (a + 1) = 0 by omega]
    exact ⟨Wit.refl ..,Srt.one O (by omega)⟩
def hlf (p : Nat→Bool) (i j : Nat) : Nat :=
  if h : i < j then if p ((i + j) / 2) = true then hlf p ((i + j) / 2 + 1) j else hlf p i ((i + j) / 2) else i
termination_by j - i
decreasing_by all_goals omega
theorem hlf_ok {p : Nat→Bool} : ∀ (i j : Nat),i≤j→i≤hlf p i j∧hlf p i j≤j∧((∀ x y,i≤x→x≤y→y < j→p y = true→p x = true)→(∀ x,i≤x→x < hlf p i j→p x = true)∧∀ x,hlf p i j≤x→x < j→p x = false) := by
  intro i j hij
  induction hd : j - i using Nat.strongRecOn generalizing i j with
  | _ d ih =>
    subst hd
    unfold hlf
    split
    · rename_i h
      split
      · rename_i hp
        obtain ⟨h1,h2,h3⟩ := ih (j - ((i + j) / 2 + 1)) (by omega) ((i + j) / 2 + 1) j (by omega) rfl
        refine ⟨by omega,h2,fun hm => ?_⟩
        obtain ⟨h4,h5⟩ := h3 (fun x y a b c d => hm x y (by omega) b c d)
        refine ⟨fun x a b => ?_,h5⟩
        by_cases e : (i + j) / 2 + 1≤x
        · exact h4 x e b
        · exact hm x ((i + j) / 2) a (by omega) (by omega) hp
      · rename_i hp
        obtain ⟨h1,h2,h3⟩ := ih ((i + j) / 2 - i) (by omega) i ((i + j) / 2) (by omega) rfl
        refine ⟨h1,by omega,fun hm => ?_⟩
        obtain ⟨h4,h5⟩ := h3 (fun x y a b c d => hm x y a b (by omega) d)
        refine ⟨h4,fun x a b => ?_⟩
        by_cases e : x < (i + j) / 2
        · exact h5 x a e
        · cases hx : p x
          · rfl
          · exact absurd (hm ((i + j) / 2) x (by omega) (by omega) b hx) hp
    · refine ⟨by omega,by omega,fun hm => ⟨fun x a b => by omega,fun x a b => by omega⟩⟩
def mvU : Nat→Nat→List α→List α
  | 0,_,l => l
  | n + 1,k,l => mvU n (k + 1) (swp l k (k + 1))
def mvD : Nat→Nat→List α→List α
  | 0,_,l => l
  | n + 1,k,l => mvD n (k - 1) (swp l k (k - 1))
theorem mvU_ok : ∀ {n k : Nat} {l : List α},k + n < l.length→Wit k (k + n + 1) l (mvU n k l)∧(∀ i,k≤i→i < k + n→nth (mvU n k l) i = nth l (i + 1))∧nth (mvU n k l) (k + n) = nth l k
  | 0,k,l,_ => ⟨Wit.refl ..,fun i _ _ => by omega,rfl⟩
  | n + 1,k,l,h => by
    have w := swp_wit (l:=l) (a:=k) (b:=k + 2) (i:=k) (j:=k + 1) (by omega) (by omega) (by omega) (by omega) (by omega)
    have hw : ∀ q,nth (swp l k (k + 1)) q = _ := fun q => swp_nth (l:=l) (i:=k) (j:=k + 1) (by omega) (by omega)
    obtain ⟨h1,h2,h3⟩ := mvU_ok (n:=n) (k:=k + 1) (l:=swp l k (k + 1)) (by simp;omega)
    show Wit _ _ _ (mvU n (k + 1) (swp l k (k + 1)))∧(∀ i,_→_→nth (mvU n (k + 1) (swp l k (k + 1))) i = _)∧nth (mvU n (k + 1) (swp l k (k + 1))) _ = _
    refine ⟨(w.wide (by omega) (by omega)).trans (h1.wide (by omega) (by omega)),fun i a b => ?_,?_⟩
    · by_cases e : i = k
      · subst e
        rw [h1.out i (by omega),hw,if_neg (by omega),if_pos rfl]
      · rw [h2 i (by omega) (by omega),hw,if_neg (by omega),if_neg (by omega)]
    · rw [show k + (n + 1) = k + 1 + n by omega,h3,hw,if_pos rfl]
theorem mvD_ok : ∀ {n k : Nat} {l : List α},n≤k→k < l.length→Wit (k - n) (k + 1) l (mvD n k l)∧(∀ i,k - n < i→i≤k→nth (mvD n k l) i = nth l (i - 1))∧nth (mvD n k l) (k - n) = nth l k
  | 0,k,l,_,_ => ⟨Wit.refl ..,fun i _ _ => by omega,rfl⟩
  | n + 1,k,l,hn,h => by
    have w := swp_wit (l:=l) (a:=k - 1) (b:=k + 1) (i:=k) (j:=k - 1) (by omega) (by omega) (by omega) (by omega) (by omega)
    have hw : ∀ q,nth (swp l k (k - 1)) q = _ := fun q => swp_nth (l:=l) (i:=k) (j:=k - 1) (by omega) (by omega)
    obtain ⟨h1,h2,h3⟩ := mvD_ok (n:=n) (k:=k - 1) (l:=swp l k (k - 1)) (by omega) (by simp;omega)
    show Wit _ _ _ (mvD n (k - 1) (swp l k (k - 1)))∧(∀ i,_→_→nth (mvD n (k - 1) (swp l k (k - 1))) i = _)∧nth (mvD n (k - 1) (swp l k (k - 1))) _ = _
    refine ⟨(w.wide (by omega) (by omega)).trans (h1.wide (by omega) (by omega)),fun i a b => ?_,?_⟩
    · by_cases e : i = k
      · subst e
        rw [h1.out i (by omega),hw,if_neg (by omega),if_pos rfl]
      · rw [h2 i (by omega) (by omega),hw,if_neg (by omega),if_neg (by omega)]
    · rw [show k - (n + 1) = k - 1 - n by omega,h3,hw,if_pos rfl]
def swR : Nat→Nat→Nat→List α→List α
  | 0,_,_,l => l
  | n + 1,a,b,l => swR n (a + 1) (b + 1) (swp l a b)
theorem swR_ok : ∀ {n a b : Nat} {l : List α},a + n≤b→b + n≤l.length→(swR n a b l).Perm l∧∀ k,nth (swR n a b l) k = if a≤k∧k < a + n then nth l (k - a + b) else if b≤k∧k < b + n then nth l (k - b + a) else nth l k
  | 0,a,b,l,_,_ => ⟨.refl _,fun k => by rw [if_neg (by omega),if_neg (by omega)];rfl⟩
  | n + 1,a,b,l,h1,h2 => by
    obtain ⟨p,h⟩ := swR_ok (n:=n) (a:=a + 1) (b:=b + 1) (l:=swp l a b) (by omega) (by simp;omega)
    have hw : ∀ q,nth (swp l a b) q = _ := fun q => swp_nth (l:=l) (i:=a) (j:=b) (by omega) (by omega)
    refine ⟨p.trans (swp_perm (by omega) (by omega)),fun k => ?_⟩
    show nth (swR n (a + 1) (b + 1) (swp l a b)) k = _
    rw [h k]
    by_cases c1 : a≤k∧k < a + (n + 1)
    · rw [if_pos c1]
      by_cases e : k = a
      · subst e
        rw [if_neg (by omega),if_neg (by omega),hw,if_neg (by omega),if_pos rfl]
        congr 1;omega
      · rw [if_pos (by omega),hw,if_neg (by omega),if_neg (by omega)]
        congr 1;omega
    · rw [if_neg c1,if_neg (by omega)]
      by_cases c2 : b≤k∧k < b + (n + 1)
      · rw [if_pos c2]
        by_cases e : k = b
        · subst e
          rw [if_neg (by omega),hw,if_pos rfl]
          congr 1;omega
        · rw [if_pos (by omega),hw,if_neg (by omega),if_neg (by omega)]
          congr 1;omega
      · rw [if_neg c2,if_neg (by omega),hw,if_neg (by omega),if_neg (by omega)]
def rot (m i j : Nat) (l : List α) : List α :=
  if i = 0∨j = 0 then l else if i = j then swR i (m - i) m l else if j < i then rot m (i - j) j (swR j (m - i) m l) else rot m i (j - i) (swR i (m - i) (m + j - i) l)
termination_by i + j
decreasing_by all_goals omega
theorem rot_ok {m : Nat} : ∀ (i j : Nat) (l : List α),i≤m→m + j≤l.length→(rot m i j l).Perm l∧∀ k,nth (rot m i j l) k = if m - i≤k∧k < m - i + j then nth l (k + i) else if m - i + j≤k∧k < m + j then nth l (k - j) else nth l k := by
  intro i j
  induction hd : i + j using Nat.strongRecOn generalizing i j with
  | _ d ih =>
    subst hd
    intro l hi hj
    unfold rot
    split
    · rename_i h0
      refine ⟨.refl _,fun k => ?_⟩
      by_cases c1 : m - i≤k∧k < m - i + j
      · rw [if_pos c1];congr 1;omega
      · rw [if_neg c1]
        by_cases c2 : m - i + j≤k∧k < m + j
        · rw [if_pos c2];congr 1;omega
        · rw [if_neg c2]
    · rename_i h0
      split
      · rename_i e
        subst e
        obtain ⟨p,h⟩ := swR_ok (n:=i) (a:=m - i) (b:=m) (l:=l) (by omega) (by omega)
        refine ⟨p,fun k => ?_⟩
        rw [h k]
        by_cases c1 : m - i≤k∧k < m - i + i
        · rw [if_pos c1,if_pos c1];congr 1;omega
        · rw [if_neg c1,if_neg c1]
          by_cases c2 : m≤k∧k < m + i
          · rw [if_pos c2,if_pos (by omega)];congr 1;omega
          · rw [if_neg c2,if_neg (by omega)]
      · rename_i e
        split
        · rename_i hlt
          obtain ⟨p,h⟩ := swR_ok (n:=j) (a:=m - i) (b:=m) (l:=l) (by omega) (by omega)
          obtain ⟨p2,h2⟩ := ih (i - j + j) (by omega) (i - j) j rfl (swR j (m - i) m l) (by omega) (by rw [p.length_eq];omega)
          refine ⟨p2.trans p,fun k => ?_⟩
          rw [h2 k]
          by_cases c1 : m - i≤k∧k < m - i + j
          · rw [if_pos c1,if_neg (by omega),if_neg (by omega),h k,if_pos c1];congr 1;omega
          · rw [if_neg c1]
            by_cases c2 : m - i + j≤k∧k < m + j
            · rw [if_pos c2]
              by_cases c3 : m - (i - j)≤k∧k < m - (i - j) + j
              · rw [if_pos c3,h,if_neg (by omega),if_pos (by omega)];congr 1;omega
              · rw [if_neg c3,if_pos (by omega),h,if_neg (by omega),if_neg (by omega)]
            · rw [if_neg c2,if_neg (by omega),if_neg (by omega),h,if_neg (by omega),if_neg (by omega)]
        · rename_i hlt
          obtain ⟨p,h⟩ := swR_ok (n:=i) (a:=m - i) (b:=m + j - i) (l:=l) (by omega) (by omega)
          obtain ⟨p2,h2⟩ := ih (i + (j - i)) (by omega) i (j - i) rfl (swR i (m - i) (m + j - i) l) (by omega) (by rw [p.length_eq];omega)
          refine ⟨p2.trans p,fun k => ?_⟩
          rw [h2 k]
          by_cases c1 : m - i≤k∧k < m - i + j
          · rw [if_pos c1]
            by_cases c3 : m - i≤k∧k < m - i + (j - i)
            · rw [if_pos c3,h]
              by_cases c4 : m≤k + i
              · rw [if_neg (by omega),if_neg (by omega)]
              · omega
            · rw [if_neg c3]
              by_cases c5 : k < m + (j - i)
              · rw [if_pos (by omega),h,if_pos (by omega)];congr 1;omega
              · omega
          · rw [if_neg c1]
            by_cases c2 : m - i + j≤k∧k < m + j
            · rw [if_pos c2,if_neg (by omega),if_neg (by omega),h,if_neg (by omega),if_pos (by omega)];congr 1;omega
            · rw [if_neg c2,if_neg (by omega),if_neg (by omega),h,if_neg (by omega),if_neg (by omega)]
end
section
variable {α : Type} [Inhabited α] {lt : α→α→Bool}
def symS (lt : α→α→Bool) (a m b : Nat) (l : List α) : Nat :=
  if (a + b) / 2 < m then hlf (fun c => !lt (nth l ((a + b) / 2 + m - 1 - c)) (nth l c)) ((a + b) / 2 + m - b) ((a + b) / 2)
  else hlf (fun c => !lt (nth l ((a + b) / 2 + m - 1 - c)) (nth l c)) a m
def cutR (s m mid : Nat) (l : List α) : List α :=
  if s < m∧m < mid + m - s then rot m (m - s) (mid + m - s - m) l else l
def symM (lt : α→α→Bool) : Nat→Nat→Nat→Nat→List α→List α
  | 0,_,_,_,l => l
  | f + 1,a,m,b,l =>
    if m - a = 1 then mvU (hlf (fun h => lt (nth l h) (nth l a)) m b - 1 - a) a l
    else if b - m = 1 then mvD (m - hlf (fun h => !lt (nth l m) (nth l h)) a m) m l
    else
      let s := symS lt a m b l
      let e := (a + b) / 2 + m - s
      let l2 := if a < s∧s < (a + b) / 2 then symM lt f a s ((a + b) / 2) (cutR s m ((a + b) / 2) l) else cutR s m ((a + b) / 2) l
      if (a + b) / 2 < e∧e < b then symM lt f ((a + b) / 2) e b l2 else l2
theorem sym1 (O : Ordr lt) {a b : Nat} {l : List α} (hab : a + 1 < b) (hb : b≤l.length) (h2 : Srt lt (a + 1) b l) : Wit a b l (mvU (hlf (fun h => lt (nth l h) (nth l a)) (a + 1) b - 1 - a) a l)∧Srt lt a b (mvU (hlf (fun h => lt (nth l h) (nth l a)) (a + 1) b - 1 - a) a l) := by
  obtain ⟨q1,q2,q3⟩ := hlf_ok (p:=fun h => lt (nth l h) (nth l a)) (a + 1) b (by omega)
  obtain ⟨q4,q5⟩ := q3 (fun x y h1 hxy hy hp => by
    cases hc : lt (nth l x) (nth l a)
    · have := O.ntr hc (h2 x y h1 hxy hy);have hp' : lt (nth l y) (nth l a) = true := hp;rw [hp'] at this;cases this
    · rfl)
  generalize hlf (fun h => lt (nth l h) (nth l a)) (a + 1) b = i at *
  obtain ⟨w,m1,m2⟩ := mvU_ok (n:=i - 1 - a) (k:=a) (l:=l) (by omega)
  refine ⟨w.wide (by omega) (by omega),fun p q hp hpq hq => ?_⟩
  rw [show a + (i - 1 - a) = i - 1 by omega] at *
  by_cases c1 : q < i - 1
  · rw [m1 p hp (by omega),m1 q (by omega) c1]
    exact h2 _ _ (by omega) (by omega) (by omega)
  · by_cases c2 : q = i - 1
    · subst c2
      rw [m2]
      by_cases c3 : p = i - 1
      · subst c3;rw [m2];exact O.rfl' _
      · rw [m1 p hp (by omega)]
        exact O.asym (q4 (p + 1) (by omega) (by omega))
    · rw [w.out q (by omega)]
      by_cases c3 : p < i - 1
      · rw [m1 p hp c3];exact h2 _ _ (by omega) (by omega) (by omega)
      · by_cases c4 : p = i - 1
        · subst c4;rw [m2];exact q5 q (by omega) hq
        · rw [w.out p (by omega)];exact h2 _ _ (by omega) hpq hq
theorem sym2 (O : Ordr lt) {a m : Nat} {l : List α} (ham : a < m) (hb : m + 1≤l.length) (h1 : Srt lt a m l) : Wit a (m + 1) l (mvD (m - hlf (fun h => !lt (nth l m) (nth l h)) a m) m l)∧Srt lt a (m + 1) (mvD (m - hlf (fun h => !lt (nth l m) (nth l h)) a m) m l) := by
  obtain ⟨q1,q2,q3⟩ := hlf_ok (p:=fun h => !lt (nth l m) (nth l h)) a m (by omega)
  obtain ⟨q4,q5⟩ := q3 (fun x y h2 hxy hy hp => by
    simp only [Bool.not_eq_true'] at hp ⊢
    exact O.ntr (h1 x y h2 hxy hy) hp)
  generalize hlf (fun h => !lt (nth l m) (nth l h)) a m = i at *
  obtain ⟨w,m1,m2⟩ := mvD_ok (n:=m - i) (k:=m) (l:=l) (by omega) (by omega)
  rw [show m - (m - i) = i by omega] at *
  refine ⟨w.wide (by omega) (by omega),fun p q hp hpq hq => ?_⟩
  have q4' : ∀ x,a≤x→x < i→lt (nth l m) (nth l x) = false := fun x h2 h3 => by simpa using q4 x h2 h3
  have q5' : ∀ x,i≤x→x < m→lt (nth l m) (nth l x) = true := fun x h2 h3 => by simpa using q5 x h2 h3
  by_cases c1 : q < i
  · rw [w.out p (by omega),w.out q (by omega)];exact h1 _ _ hp hpq (by omega)
  · by_cases c2 : q = i
    · subst c2
      rw [m2]
      by_cases c3 : p = q
      · subst c3;rw [m2];exact O.rfl' _
      · rw [w.out p (by omega)];exact q4' p hp (by omega)
    · rw [m1 q (by omega) (by omega)]
      by_cases c3 : p < i
      · rw [w.out p (by omega)];exact h1 _ _ hp (by omega) (by omega)
      · by_cases c4 : p = i
        · subst c4;rw [m2];exact O.asym (q5' _ (by omega) (by omega))
        · rw [m1 p (by omega) (by omega)];exact h1 _ _ (by omega) (by omega) (by omega)
theorem symS_ok (O : Ordr lt) {a m b : Nat} {l : List α} (h1 : a < m) (h2 : m < b) (s1 : Srt lt a m l) (s2 : Srt lt m b l) :
    a≤symS lt a m b l∧symS lt a m b l≤m∧symS lt a m b l≤(a + b) / 2∧m≤(a + b) / 2 + m - symS lt a m b l∧(a + b) / 2 + m - symS lt a m b l≤b ∧
    (∀ x y,a≤x→x < symS lt a m b l→(a + b) / 2 + m - symS lt a m b l≤y→y < b→lt (nth l y) (nth l x) = false) ∧
    (∀ x y,m≤x→x < (a + b) / 2 + m - symS lt a m b l→symS lt a m b l≤y→y < m→lt (nth l y) (nth l x) = false) := by
  have key : ∀ lo hi s,lo≤hi→a≤lo→hi≤m→hi≤(a + b) / 2→(a + b) / 2 + m - lo≤b→m≤(a + b) / 2 + m - hi→(lo = a∨(a + b) / 2 + m - lo = b)→(hi = m∨(a + b) / 2 + m - hi = m) →
      s = hlf (fun c => !lt (nth l ((a + b) / 2 + m - 1 - c)) (nth l c)) lo hi→a≤s∧s≤m∧s≤(a + b) / 2∧m≤(a + b) / 2 + m - s∧(a + b) / 2 + m - s≤b ∧
      (∀ x y,a≤x→x < s→(a + b) / 2 + m - s≤y→y < b→lt (nth l y) (nth l x) = false)∧(∀ x y,m≤x→x < (a + b) / 2 + m - s→s≤y→y < m→lt (nth l y) (nth l x) = false) := by
    intro lo hi s g1 g2 g3 g4 g5 g6 g7 g8 hs
    obtain ⟨q1,q2,q3⟩ := hlf_ok (p:=fun c => !lt (nth l ((a + b) / 2 + m - 1 - c)) (nth l c)) lo hi g1
    rw [← hs] at q1 q2 q3
    obtain ⟨q4,q5⟩ := q3 (fun x y hx hxy hy hp => by
      simp only [Bool.not_eq_true'] at hp ⊢
      have e1 := s1 x y (by omega) hxy (by omega)
      have e2 := s2 ((a + b) / 2 + m - 1 - y) ((a + b) / 2 + m - 1 - x) (by omega) (by omega) (by omega)
      exact O.ntr (O.ntr e1 hp) e2)
    refine ⟨by omega,by omega,by omega,by omega,by omega,fun x y hx1 hx2 hy1 hy2 => ?_,fun x y hx1 hx2 hy1 hy2 => ?_⟩
    · have hlo : lo≤s - 1 := by omega
      have e0 := q4 (s - 1) hlo (by omega)
      simp only [Bool.not_eq_true'] at e0
      rw [show (a + b) / 2 + m - 1 - (s - 1) = (a + b) / 2 + m - s by omega] at e0
      exact O.ntr (O.ntr (s1 x (s - 1) hx1 (by omega) (by omega)) e0) (s2 _ y (by omega) hy1 hy2)
    · have e0 := q5 s (by omega) (by omega)
      simp only [Bool.not_eq_false'] at e0
      have e0 := O.asym e0
      exact O.ntr (O.ntr (s2 x ((a + b) / 2 + m - 1 - s) hx1 (by omega) (by omega)) e0) (s1 s y (by omega) hy1 hy2)
  unfold symS
  split
  · exact key _ _ _ (by omega) (by omega) (by omega) (by omega) (by omega) (by omega) (.inr (by omega)) (.inr (by omega)) rfl
  · exact key _ _ _ (by omega) (by omega) (by omega) (by omega) (by omega) (by omega) (.inl rfl) (.inl rfl) rfl
theorem cutR_nth {s m mid : Nat} {l : List α} (hs : s≤mid) (hs2 : s≤m) (he : mid + m - s≤l.length) :
    (cutR s m mid l).Perm l∧∀ k,nth (cutR s m mid l) k = if s≤k∧k < mid then nth l (k + (m - s)) else if mid≤k∧k < mid + m - s then nth l (k + s - mid) else nth l k := by
  unfold cutR
  split
  · rename_i h
    obtain ⟨p,q⟩ := rot_ok (m:=m) (m - s) (mid + m - s - m) l (by omega) (by omega)
    refine ⟨p,fun k => ?_⟩
    rw [q k]
    by_cases c1 : s≤k∧k < mid
    · rw [if_pos c1,if_pos (by omega)]
    · rw [if_neg c1,if_neg (by omega)]
      by_cases c2 : mid≤k∧k < mid + m - s
      · rw [if_pos c2,if_pos (by omega)];congr 1;omega
      · rw [if_neg c2,if_neg (by omega)]
  · rename_i h
    refine ⟨.refl _,fun k => ?_⟩
    by_cases c1 : s≤k∧k < mid
    · rw [if_pos c1];congr 1;omega
    · rw [if_neg c1]
      by_cases c2 : mid≤k∧k < mid + m - s
      · rw [if_pos c2];congr 1;omega
      · rw [if_neg c2]
theorem symM_ok (O : Ordr lt) : ∀ (f a m b : Nat) (l : List α),b - a≤f→a < m→m < b→b≤l.length→Srt lt a m l→Srt lt m b l→Wit a b l (symM lt f a m b l)∧Srt lt a b (symM lt f a m b l)
  | 0,a,m,b,l,hf,h1,h2,hb,s1,s2 => by omega
  | f + 1,a,m,b,l,hf,h1,h2,hb,s1,s2 => by
    unfold symM
    split
    · rename_i h
      obtain rfl : m = a + 1 := by omega
      exact sym1 O (by omega) hb s2
    · split
      · rename_i h
        obtain rfl : b = m + 1 := by omega
        exact sym2 O h1 hb s1
      · rename_i n1 n2
        obtain ⟨r1,r2,r3,r4,r5,r6,r7⟩ := symS_ok O h1 h2 s1 s2
        simp only
        generalize symS lt a m b l = s at *
        generalize hmid : (a + b) / 2 = mid at *
        obtain ⟨p,hn⟩ := cutR_nth (s:=s) (m:=m) (mid:=mid) (l:=l) r3 r2 (by omega)
        generalize cutR s m mid l = l1 at *
        have w1 : Wit a b l l1 := by
          refine ⟨p,fun k hk => ?_,fun k ha hk => ?_⟩
          · rw [hn k,if_neg (by omega),if_neg (by omega)]
          · rw [hn k]
            by_cases c1 : s≤k∧k < mid
            · rw [if_pos c1];exact ⟨_,by omega,by omega,rfl⟩
            · rw [if_neg c1]
              by_cases c2 : mid≤k∧k < mid + m - s
              · rw [if_pos c2];exact ⟨_,by omega,by omega,rfl⟩
              · rw [if_neg c2];exact ⟨_,ha,hk,rfl⟩
        have t1 : Srt lt a s l1 := fun i j g1 g2 g3 => by
          rw [hn i,hn j,if_neg (by omega),if_neg (by omega),if_neg (by omega),if_neg (by omega)];exact s1 i j g1 g2 (by omega)
        have t2 : Srt lt s mid l1 := fun i j g1 g2 g3 => by
          rw [hn i,hn j,if_pos (by omega),if_pos (by omega)];exact s2 _ _ (by omega) (by omega) (by omega)
        have t3 : Srt lt mid (mid + m - s) l1 := fun i j g1 g2 g3 => by
          rw [hn i,hn j,if_neg (by omega),if_pos (by omega),if_neg (by omega),if_pos (by omega)];exact s1 _ _ (by omega) (by omega) (by omega)
        have t4 : Srt lt (mid + m - s) b l1 := fun i j g1 g2 g3 => by
          rw [hn i,hn j,if_neg (by omega),if_neg (by omega),if_neg (by omega),if_neg (by omega)];exact s2 _ _ (by omega) (by omega) (by omega)
        have tc : ∀ x y,a≤x→x < mid→mid≤y→y < b→lt (nth l1 y) (nth l1 x) = false := fun x y g1 g2 g3 g4 => by
          by_cases c1 : x < s
          · rw [show nth l1 x = nth l x by rw [hn x,if_neg (by omega),if_neg (by omega)]]
            by_cases c2 : y < mid + m - s
            · rw [hn y,if_neg (by omega),if_pos (by omega)];exact s1 _ _ (by omega) (by omega) (by omega)
            · rw [hn y,if_neg (by omega),if_neg (by omega)];exact r6 _ _ (by omega) (by omega) (by omega) (by omega)
          · rw [show nth l1 x = nth l (x + (m - s)) by rw [hn x,if_pos (by omega)]]
            by_cases c2 : y < mid + m - s
            · rw [hn y,if_neg (by omega),if_pos (by omega)];exact r7 _ _ (by omega) (by omega) (by omega) (by omega)
            · rw [hn y,if_neg (by omega),if_neg (by omega)];exact s2 _ _ (by omega) (by omega) (by omega)
        have hl1 := w1.len
        have A : Wit a mid l1 (if a < s∧s < mid then symM lt f a s mid l1 else l1)∧Srt lt a mid (if a < s∧s < mid then symM lt f a s mid l1 else l1) := by
          split
          · rename_i h
            exact symM_ok O f a s mid l1 (by omega) h.1 h.2 (by omega) t1 t2
          · rename_i h
            refine ⟨Wit.refl ..,?_⟩
            by_cases c : s = a
            · subst c;exact t2
            · obtain rfl : s = mid := by omega
              exact t1
        generalize (if a < s∧s < mid then symM lt f a s mid l1 else l1) = l2 at *
        obtain ⟨w2,u1⟩ := A
        have hl2 := w2.len
        have t3' := t3.out w2 (.inr (Nat.le_refl _))
        have t4' := t4.out w2 (.inr (by omega))
        have B : Wit mid b l2 (if mid < mid + m - s∧mid + m - s < b then symM lt f mid (mid + m - s) b l2 else l2)∧Srt lt mid b (if mid < mid + m - s∧mid + m - s < b then symM lt f mid (mid + m - s) b l2 else l2) := by
          split
          · rename_i h
            exact symM_ok O f mid (mid + m - s) b l2 (by omega) h.1 h.2 (by omega) t3' t4'
          · rename_i h
            refine ⟨Wit.refl ..,?_⟩
            by_cases c : mid + m - s = b
            · rw [← c];exact t3'
            · have : mid = mid + m - s := by omega
              rw [← this] at t4';exact t4'
        generalize (if mid < mid + m - s∧mid + m - s < b then symM lt f mid (mid + m - s) b l2 else l2) = l3 at *
        obtain ⟨w3,u2⟩ := B
        refine ⟨(w1.trans (w2.wide (Nat.le_refl _) (by omega))).trans (w3.wide (by omega) (Nat.le_refl _)),fun x y g1 g2 g3 => ?_⟩
        by_cases c1 : y < mid
        · rw [w3.out x (by omega),w3.out y (by omega)];exact u1 x y g1 g2 c1
        · by_cases c2 : mid≤x
          · exact u2 x y c2 g2 g3
          · obtain ⟨y',y1,y2,e1⟩ := w3.mem y (by omega) g3
            obtain ⟨x',x1,x2,e2⟩ := w2.mem x g1 (by omega)
            rw [e1,w3.out x (by omega),e2,w2.out y' (by omega)]
            exact tc x' y' x1 x2 y1 y2
end
end Go.Proofs.Ytbcgenkegnmkhaa.Ev
namespace Go.Proofs.Ytbcgenkegnmkhaa.Ev
set_option linter.unusedSectionVars false
section
variable {α : Type} [Inhabited α] {lt : α→α→Bool}
def blk (g : Nat→List α→List α) (w n : Nat) : Nat→Nat→List α→Nat × List α
  | 0,a,l => (a,l)
  | f + 1,a,l => if a + w≤n then blk g w n f (a + w) (g a l) else (a,l)
theorem blk_ok {g : Nat→List α→List α} {w n : Nat} {l0 : List α} (hw : 1≤w) (hn : n≤l0.length)
    (hg : ∀ k l',k * w + w≤n→l'.length = l0.length→(∀ i,k * w≤i→nth l' i = nth l0 i)→Wit (k * w) (k * w + w) l' (g (k * w) l')∧Srt lt (k * w) (k * w + w) (g (k * w) l')) :
    ∀ (f k : Nat) (l' : List α),n≤f + k * w→k * w≤n→Wit 0 (k * w) l0 l'→(∀ j,j < k→Srt lt (j * w) (j * w + w) l') →
    ∃ K,(blk g w n f (k * w) l').1 = K * w∧K * w≤n∧n < K * w + w∧Wit 0 (K * w) l0 (blk g w n f (k * w) l').2∧∀ j,j < K→Srt lt (j * w) (j * w + w) (blk g w n f (k * w) l').2
  | 0,k,l',h1,h2,h3,h4 => ⟨k,rfl,h2,by omega,h3,h4⟩
  | f + 1,k,l',h1,h2,h3,h4 => by
    unfold blk
    split
    · rename_i h
      obtain ⟨w1,s1⟩ := hg k l' h h3.len (fun i hi => h3.out i (.inr hi))
      rw [show k * w + w = (k + 1) * w by rw [Nat.succ_mul]] at *
      refine blk_ok hw hn hg f (k + 1) _ (by rw [Nat.succ_mul];omega) h ((h3.wide (Nat.le_refl _) (by rw [Nat.succ_mul];omega)).trans (w1.wide (Nat.zero_le _) (Nat.le_refl _))) (fun j hj => ?_)
      by_cases e : j = k
      · subst e;rw [show j * w + w = (j + 1) * w by rw [Nat.succ_mul]];exact s1
      · have hjk : j * w + w≤k * w := by
          rw [← Nat.succ_mul];exact Nat.mul_le_mul_right _ (by omega)
        exact (h4 j (by omega)).out w1 (.inl hjk)
    · rename_i h
      exact ⟨k,rfl,h2,by omega,h3,h4⟩
def Blks (lt : α→α→Bool) (w n : Nat) (l : List α) : Prop := ∀ k,k * w < n→Srt lt (k * w) (min (k * w + w) n) l
def stb1 (lt : α→α→Bool) (n : Nat) (l : List α) : List α :=
  ins lt (blk (fun a l => ins lt a (a + 20) l) 20 n n 0 l).1 n (blk (fun a l => ins lt a (a + 20) l) 20 n n 0 l).2
theorem stb1_ok (O : Ordr lt) {n : Nat} {l : List α} (hn : n≤l.length) : Wit 0 n l (stb1 lt n l)∧Blks lt 20 n (stb1 lt n l) := by
  unfold stb1
  obtain ⟨K,e,h1,h2,w1,s1⟩ := blk_ok (lt:=lt) (g:=fun a l => ins lt a (a + 20) l) (w:=20) (n:=n) (l0:=l) (by omega) hn (fun k l' hk hl _ => ins_ok O (by omega)) n 0 l (by omega) (by omega) (by rw [Nat.zero_mul];exact Wit.refl ..) (fun j hj => by omega)
  rw [Nat.zero_mul] at e w1 s1
  rw [e]
  generalize (blk (fun a l => ins lt a (a + 20) l) 20 n n 0 l).2 = l2 at *
  have hl := w1.len
  obtain ⟨w2,s2⟩ := ins_ok O (a:=K * 20) (b:=n) (l:=l2) (by omega)
  refine ⟨(w1.wide (Nat.le_refl _) h1).trans (w2.wide (Nat.zero_le _) (Nat.le_refl _)),fun k hk => ?_⟩
  by_cases c1 : k < K
  · rw [Nat.min_eq_left (by omega)]
    exact (s1 k c1).out w2 (.inl (by omega))
  · obtain rfl : k = K := by omega
    rw [Nat.min_eq_right (by omega)];exact s2
def mrg (lt : α→α→Bool) (w n : Nat) (l : List α) : List α :=
  if (blk (fun a l => symM lt (2 * w) a (a + w) (a + 2 * w) l) (2 * w) n n 0 l).1 + w < n then symM lt (2 * w) (blk (fun a l => symM lt (2 * w) a (a + w) (a + 2 * w) l) (2 * w) n n 0 l).1 ((blk (fun a l => symM lt (2 * w) a (a + w) (a + 2 * w) l) (2 * w) n n 0 l).1 + w) n (blk (fun a l => symM lt (2 * w) a (a + w) (a + 2 * w) l) (2 * w) n n 0 l).2
  else (blk (fun a l => symM lt (2 * w) a (a + w) (a + 2 * w) l) (2 * w) n n 0 l).2
theorem mrg_ok (O : Ordr lt) {w n : Nat} {l : List α} (hw : 1≤w) (hn : n≤l.length) (hB : Blks lt w n l) : Wit 0 n l (mrg lt w n l)∧Blks lt (2 * w) n (mrg lt w n l) := by
  unfold mrg
  have h2w : ∀ k,k * (2 * w) = 2 * k * w := fun k => by rw [Nat.mul_comm 2 k,Nat.mul_assoc]
  have h2s : ∀ k,(2 * k + 1) * w = 2 * k * w + w := fun k => by rw [Nat.succ_mul]
  obtain ⟨K,e,h1,h2,w1,s1⟩ := blk_ok (lt:=lt) (g:=fun a l => symM lt (2 * w) a (a + w) (a + 2 * w) l) (w:=2 * w) (n:=n) (l0:=l) (by omega) hn (fun k l' hk hl hs => by
    have b1 := hB (2 * k) (by rw [h2w] at hk;omega)
    have b2 := hB (2 * k + 1) (by rw [h2w] at hk;rw [h2s];omega)
    rw [h2s] at b2
    rw [← h2w] at b1 b2
    rw [Nat.min_eq_left (by omega)] at b1 b2
    exact symM_ok O (2 * w) (k * (2 * w)) (k * (2 * w) + w) (k * (2 * w) + 2 * w) l' (by omega) (by omega) (by omega) (by omega)
      (fun i j g1 g2 g3 => by rw [hs i (by omega),hs j (by omega)];exact b1 i j g1 g2 g3)
      (fun i j g1 g2 g3 => by rw [hs i (by omega),hs j (by omega)];exact b2 i j g1 g2 (by omega))) n 0 l (by omega) (by omega) (by rw [Nat.zero_mul];exact Wit.refl ..) (fun j hj => by omega)
  rw [Nat.zero_mul] at e w1 s1
  rw [e]
  generalize (blk (fun a l => symM lt (2 * w) a (a + w) (a + 2 * w) l) (2 * w) n n 0 l).2 = l2 at *
  have hl := w1.len
  have hlow : ∀ k l3,k < K→Wit (K * (2 * w)) n l2 l3→Srt lt (k * (2 * w)) (min (k * (2 * w) + 2 * w) n) l3 := fun k l3 hk w3 => by
    have hkk : k * (2 * w) + 2 * w≤K * (2 * w) := by
      rw [← Nat.succ_mul];exact Nat.mul_le_mul_right _ (by omega)
    rw [Nat.min_eq_left (by omega)]
    exact (s1 k hk).out w3 (.inl hkk)
  have hhi : ∀ k,K < k→¬ k * (2 * w) < n := fun k hk => by
    have hkk : K * (2 * w) + 2 * w≤k * (2 * w) := by
      rw [← Nat.succ_mul];exact Nat.mul_le_mul_right _ (by omega)
    omega
  split
  · rename_i hlt
    have b1 := hB (2 * K) (by rw [h2w] at hlt;omega)
    have b2 := hB (2 * K + 1) (by rw [h2w] at hlt;rw [h2s];omega)
    rw [h2s] at b2
    rw [← h2w] at b1 b2
    rw [Nat.min_eq_left (by omega)] at b1
    rw [Nat.min_eq_right (by omega)] at b2
    obtain ⟨w2,s2⟩ := symM_ok O (2 * w) (K * (2 * w)) (K * (2 * w) + w) n l2 (by omega) (by omega) hlt (by omega)
      (fun i j g1 g2 g3 => by rw [w1.out i (by omega),w1.out j (by omega)];exact b1 i j g1 g2 g3)
      (fun i j g1 g2 g3 => by rw [w1.out i (by omega),w1.out j (by omega)];exact b2 i j g1 g2 g3)
    refine ⟨(w1.wide (Nat.le_refl _) h1).trans (w2.wide (Nat.zero_le _) (Nat.le_refl _)),fun k hk => ?_⟩
    by_cases c1 : k < K
    · exact hlow k _ c1 w2
    · by_cases c2 : k = K
      · subst c2;rw [Nat.min_eq_right (by omega)];exact s2
      · exact absurd hk (hhi k (by omega))
  · rename_i hlt
    refine ⟨w1.wide (Nat.le_refl _) h1,fun k hk => ?_⟩
    by_cases c1 : k < K
    · exact hlow k _ c1 (Wit.refl ..)
    · by_cases c2 : k = K
      · subst c2
        have b1 := hB (2 * k) (by rw [h2w] at hk;omega)
        rw [← h2w] at b1
        rw [Nat.min_eq_right (by omega)] at b1 ⊢
        intro i j g1 g2 g3
        rw [w1.out i (by omega),w1.out j (by omega)];exact b1 i j g1 g2 g3
      · exact absurd hk (hhi k (by omega))
def stb2 (lt : α→α→Bool) (n : Nat) : Nat→Nat→List α→List α
  | 0,_,l => l
  | f + 1,w,l => if w < n then stb2 lt n f (2 * w) (mrg lt w n l) else l
theorem stb2_ok (O : Ordr lt) {n : Nat} : ∀ (f w : Nat) (l : List α),n≤f + w→1≤w→n≤l.length→Blks lt w n l→Wit 0 n l (stb2 lt n f w l)∧Srt lt 0 n (stb2 lt n f w l)
  | 0,w,l,hf,hw,hn,hB => by
    refine ⟨Wit.refl ..,fun i j g1 g2 g3 => ?_⟩
    have b := hB 0 (by omega)
    rw [Nat.zero_mul,Nat.min_eq_right (by omega)] at b
    exact b i j g1 g2 g3
  | f + 1,w,l,hf,hw,hn,hB => by
    unfold stb2
    split
    · rename_i h
      obtain ⟨w1,b1⟩ := mrg_ok O hw hn hB
      obtain ⟨w2,s2⟩ := stb2_ok O f (2 * w) _ (by omega) (by omega) (by rw [w1.len];exact hn) b1
      exact ⟨w1.trans w2,s2⟩
    · rename_i h
      refine ⟨Wit.refl ..,fun i j g1 g2 g3 => ?_⟩
      have b := hB 0 (by omega)
      rw [Nat.zero_mul,Nat.min_eq_right (by omega)] at b
      exact b i j g1 g2 g3
def stb (lt : α→α→Bool) (l : List α) : List α := stb2 lt l.length l.length 20 (stb1 lt l.length l)
theorem stb_ok (O : Ordr lt) (l : List α) : (stb lt l).Perm l∧Srt lt 0 l.length (stb lt l) := by
  obtain ⟨w1,b1⟩ := stb1_ok O (n:=l.length) (l:=l) (Nat.le_refl _)
  obtain ⟨w2,s2⟩ := stb2_ok O l.length 20 _ (by omega) (by omega) (by rw [w1.len];exact Nat.le_refl _) b1
  exact ⟨(w1.trans w2).perm,s2⟩
end
end Go.Proofs.Ytbcgenkegnmkhaa.Ev
namespace Go.Proofs.Ytbcgenkegnmkhaa.Ev
open Go
set_option maxRecDepth 100000
set_option linter.unusedSimpArgs false
set_option linter.unusedVariables false
set_option maxHeartbeats 2000000
section
variable {call : Call} {id base : Nat} {e : List (Nat × V)} {o : List (Nat × Ob)} {n : Nat} {t : TypeId} {K : V→List (Nat × Ob)→Prop}
theorem cI {args : Array Operand} {ts : Array TypeId} {fo : Operand} {f : FuncId} {q m : Nat} {vs ys : List V} {ob : Ob} {o1 : List (Nat × Ob)} (hx : opsV e args.toList = some (.ref q 0 m :: vs) := by exact rfl) (hf : opV e fo = some (.clo f []) := by exact rfl) (hB : cf.inB f = false := by (rw [cf_in];rfl)) (hmd : cf.md f = [.io] := by (rw [cf_md];rfl)) (ho : geta o q = some ob := by exact rfl) (hb : ob.bx = false := by rfl) (hl : m = ob.xs.length := by first | rfl | (simp;done) | (simp;omega))
    (hc : call f (.iol ob.sz ob.xs :: vs) = some (.tup [],[.lst true ob.sz ys])) (hal : V.alikeL ob.xs ys = true) (hd : dela o q = o1 := by (simp;rfl)) (hlv : ∀ s : St,lendV [] vs s = some (vs,s,[]) := by intro s;rfl) (hsv : ∀ s : St,snapsV s [] vs = some vs := by intro s;rfl) (hp : plainM [.io] (.ref q 0 m :: vs) = [] := by rfl)
    (h : K (.tup []) ((q,⟨false,ob.fx,ob.sz,ys,ob.ver + 1⟩) :: o1)) : opK call cf id base e o n t (.call ⟨.value fo,args,ts⟩) K := by
  subst hd hl
  refine k_call hx hf hB rfl (bs:=.iol ob.sz ob.xs :: vs) (s1:=⟨e,dela o q,n⟩) (lent:=[(q,ob)]) (asv:=.iol ob.sz ob.xs :: vs) (ro:=[.lst true ob.sz ys]) (s2:=⟨e,(q,⟨false,ob.fx,ob.sz,ys,ob.ver + 1⟩) :: dela o q,n⟩) ?_ ?_ hc rfl ?_ ?_ rfl ?_
  · rw [hmd,List.append_nil]
    simp only [lendV,lendOne,List.headD_cons,List.tail_cons,ho,hb,if_true,and_self,hlv,List.append_nil]
  · rw [hmd]
    simp only [snapsV,List.headD_cons,List.tail_cons,hsv,V.snapA,V.snapP,V.snap,mp_some]
  · rw [hmd,List.append_nil,hp]
    exact ⟨.inl rfl,by simp [V.thaw]⟩
  · simp only [backs,backOne,hb,hal,Bool.false_eq_true,if_false,and_self,if_true,puta]
  · exact h
end
theorem iv_sub {a b : Int} {c : Nat} (h : a - b = c) (hc : c < 4000000000000000000) : intV .sub .i64 a b = some (.int .i64 c) := by
  simp only [intV];rw [wrap_id (by omega) (by omega),h]
theorem iv_add {a b : Int} {c : Nat} (h : a + b = c) (hc : c < 4000000000000000000) : intV .add .i64 a b = some (.int .i64 c) := by
  simp only [intV];rw [wrap_id (by omega) (by omega),h]
theorem iv_mul {a b : Int} {c : Nat} (h : a * b = c) (hc : c < 4000000000000000000) : intV .mul .i64 a b = some (.int .i64 c) := by
  simp only [intV];rw [wrap_id (by omega) (by omega),h]
@[simp] theorem Ct.ne_undC (x : Ct) : (x.v = V.und) = False := by simp [Ct.v]
theorem tnat {a b : Nat} : ((a : Int) + (b : Int)).toNat = a + b := by omega
instance : Inhabited Ct := ⟨⟨0,0,0⟩⟩
def ltC (a b : Ct) : Bool := decide (byC a b < 0)
theorem cts_nth {r : List Ct} {j : Nat} (h : j < r.length) : (cts r)[j]? = some (nth r j).v := by
  simp [cts,nth_get h]
theorem cts_setS {r : List Ct} {j : Nat} {x : Ct} : (cts r).set j x.v = cts (r.set j x) := by simp [cts,List.map_set]
theorem bub_t {α : Type} [Inhabited α] {lt : α→α→Bool} {a j : Nat} {l : List α} (h : a < j) (h2 : lt (nth l j) (nth l (j - 1)) = true) : bub lt a j l = bub lt a (j - 1) (swp l j (j - 1)) := by
  obtain ⟨k,rfl⟩ : ∃ k,j = k + 1 := ⟨j - 1,by omega⟩
  conv => lhs;unfold bub
  rw [if_pos ⟨h,h2⟩];rfl
theorem bub_f {α : Type} [Inhabited α] {lt : α→α→Bool} {a j : Nat} {l : List α} (h : ¬ (a < j∧lt (nth l j) (nth l (j - 1)) = true)) : bub lt a j l = l := by
  cases j with
  | zero => rfl
  | succ k => unfold bub;exact if_neg h
theorem l_bubC (a b i N : Nat) (hN : N < 2000000) (hb : b≤N) (hai : a < i) (hib : i < b) : ∀ x : Nat × (List Ct),(a≤x.1∧x.1≤i∧x.2.length = N)→∀ s,normE 4 (some [0,1,2,3,8,9]) s = ⟨[(0,.ref 0 0 N),(1,.int .i64 a),(2,.int .i64 b),(3,.clo 90 []),(8,.int .i64 i),(9,.int .i64 x.1)],[(0,⟨false,true,3,cts x.2,0⟩)],4⟩ →
 oc.loop 139 4 s = some (.exit 2,⟨[(0,.ref 0 0 N),(1,.int .i64 a),(2,.int .i64 b),(3,.clo 90 []),(8,.int .i64 i)],[(0,⟨false,true,3,cts (bub ltC a x.1 x.2),0⟩)],4⟩) := by
 refine loop_ind (σ:=Nat × (List Ct)) (fun x => x.1) _ (fun x => ⟨[(0,.ref 0 0 N),(1,.int .i64 a),(2,.int .i64 b),(3,.clo 90 []),(8,.int .i64 i),(9,.int .i64 x.1)],[(0,⟨false,true,3,cts x.2,0⟩)],4⟩) _ ?_
 rintro ⟨j,r⟩ hi ih s hs
 simp only at hi
 refine loop_s cd139 rfl rfl hs ?_
 obtain ⟨hi1,hi2,hi3⟩ := hi
 have g1 : (cts r)[j]? = some (nth r j).v := cts_nth (by omega)
 have g2 : (cts r)[j - 1]? = some (nth r (j - 1)).v := cts_nth (by omega)
 refine wa_ (wa_ (wc_draw (y_ (m_ (h:=ax_ (h:=y_ (m_ (h:=ax_ (h:=y_ (b_ (h:=ax_ (h:=y_ (m_ (h:=ax_ (h:=?_)))))))))))))))
 refine gw_ (h1:=?_) (h2:=?_)
 rotate_right 1
 focus
  intro c1
  first
  | exact dn c1
  | (
   have d1 := c1;try simp at d1
   refine gd_ (h:=gd_ (h:=gd_ (h:=gd_ (h:=gd_ (h:=gd_ (h:=gd_ (h:=gd_ (h:=gd_ (h:=gd_ (h:=gd_ (h:=gd_ (h:=?_))))))))))))
   )
 rotate_right 1
 focus
  intro c1
  first
  | exact dn c1
  | (
   have d1 := c1;try simp at d1
   refine g_ (h:=y_ (m_ (h:=ax_ (h:=g_ (h:=y_ (m_ (h:=ax_ (h:=g_ (h:=y_ (m_ (h:=ax_ (h:=g_ (h:=y_ (x_ (h:=ax_ (h:=g_ (h:=y_ (l_ (h:=ax_ (h:=g_ (h:=y_ (m_ (h:=ax_ (h:=g_ (h:=y_ (m_ (h:=ax_ (h:=g_ (h:=y_ (?_))))))))))))))))))))))))))))))
   refine b_ (hv:=iv_sub (c:=j - 1) (by omega) (by omega)) (h:=?_)
   refine ax_ (h:=g_ (h:=y_ (x_ (h:=ax_ (h:=g_ (h:=y_ (l_ (h:=ax_ (h:=g_ (h:=y_ (ca (hc:=e_byC (nth r j) (nth r (j - 1))) (h:=ax_ (h:=g_ (h:=y_ (b_ (h:=ax_ (h:=?_)))))))))))))))))
   )
 all_goals
  refine y_ (pk (h:=ax_ (h:=wo_nil (ed (h:=?_)))))
 all_goals first
 | (
  refine aft_normal ?_
  refine c_ (h1:=?_) (h2:=?_)
  rotate_right 1
  focus
   intro c2
   first
   | exact dn c2
   | (
    have d2 := c2;try simp at d2
    refine wc_exit (?_)
    )
  rotate_right 1
  focus
   intro c2
   first
   | exact dn c2
   | (
    have d2 := c2;try simp at d2
    have g3 : (cts (r.set j (nth r (j - 1))))[j - 1]? = some (nth (r.set j (nth r (j - 1))) (j - 1)).v := cts_nth (by simp;omega)
    refine wc_skip (?_)
    )
  )
 all_goals first
 | refine aft_exit ?_
 | (
  refine aft_normal ?_
  refine wa_ (wc_block (wc_draw (y_ (m_ (h:=ax_ (h:=y_ (m_ (h:=ax_ (h:=y_ (m_ (h:=ax_ (h:=y_ (m_ (h:=ax_ (h:=y_ (?_))))))))))))))))
  refine b_ (hv:=iv_sub (c:=j - 1) (by omega) (by omega)) (h:=?_)
  refine ax_ (h:=y_ (m_ (h:=ax_ (h:=y_ (m_ (h:=ax_ (h:=y_ (?_))))))))
  refine b_ (hv:=iv_sub (c:=j - 1) (by omega) (by omega)) (h:=?_)
  refine ax_ (h:=y_ (x_ (h:=ax_ (h:=y_ (l_ (h:=ax_ (h:=y_ (m_ (h:=ax_ (h:=y_ (m_ (h:=ax_ (h:=y_ (x_ (h:=ax_ (h:=y_ (l_ (h:=ax_ (h:=y_ (x_ (h:=ax_ (h:=y0 (s_ (h:=ax_ (h:=y_ (x_ (h:=ax_ (h:=y0 (s_ (h:=ax_ (h:=wo_nil (ed (h:=?_)))))))))))))))))))))))))))))))))
  refine blk_normal (aft_normal (wc_region (w_ (m_ (h:=w_ (?_))))))
  refine b_ (hv:=iv_sub (c:=j - 1) (by omega) (by omega)) (h:=?_)
  refine w_ (a_ (h:=wo_nil (e_ (h:=?_))))
  )
 all_goals first
 | (refine (ih ((j - 1,swp r j (j - 1))) (⟨by simp only;omega,by simp only;omega,by simp;omega⟩) ?_ _ ?_).trans ?_;(focus (first | omega | (simp;done) | (simp;omega)));(focus (simp [normE,cts_setS,swp];done));(focus (rw [bub_t (lt:=ltC) (a:=a) (j:=j) (l:=r) (by omega) (by simp [ltC];omega)])))
 | (apply end_leaf (ex:=(Ext.exit 2)) 4 (some [0,1,2,3,8]);(focus (simp [normE];rfl));(focus (rw [bub_f (by simp [ltC];omega)])))
theorem l_insC (a b N : Nat) (hN : N < 2000000) (hb : b≤N) : ∀ x : Nat × (List Ct),(a < x.1∧x.2.length = N)→∀ s,normE 4 (some [0,1,2,3,8]) s = ⟨[(0,.ref 0 0 N),(1,.int .i64 a),(2,.int .i64 b),(3,.clo 90 []),(8,.int .i64 x.1)],[(0,⟨false,true,3,cts x.2,0⟩)],4⟩ →
 oc.loop 139 1 s = some (.exit 0,⟨[],[(0,⟨false,true,3,cts (insL ltC a (b - x.1) x.1 x.2),0⟩)],4⟩) := by
 refine loop_ind (σ:=Nat × (List Ct)) (fun x => b - x.1) _ (fun x => ⟨[(0,.ref 0 0 N),(1,.int .i64 a),(2,.int .i64 b),(3,.clo 90 []),(8,.int .i64 x.1)],[(0,⟨false,true,3,cts x.2,0⟩)],4⟩) _ ?_
 rintro ⟨i,r⟩ hi ih s hs
 simp only at hi
 refine loop_s cd139 rfl rfl hs ?_
 obtain ⟨hi1,hi2⟩ := hi
 refine wa_ (wa_ (wc_region (w_ (m_ (h:=w_ (m_ (h:=w_ (b_ (h:=wo_nil (e_ (h:=aft_normal (?_))))))))))))
 refine c_ (h1:=?_) (h2:=?_)
 rotate_right 1
 focus
  intro c1
  first
  | exact dn c1
  | (
   have d1 := c1;try simp at d1
   refine wc_exit (?_)
   )
 rotate_right 1
 focus
  intro c1
  first
  | exact dn c1
  | (
   have d1 := c1;try simp at d1
   have hw := wrap_succ (i:=i) (by omega);have wb := bub_wit (lt:=ltC) (a:=a) (b:=N) (j:=i) (l:=r) (by omega) (by omega) (by omega);have hbl := wb.len
   refine wc_skip (?_)
   )
 all_goals first
 | refine aft_exit ?_
 | (
  refine aft_normal ?_
  refine wa_ (wc_block (wa_ (wc_region (w_ (m_ (h:=w_ (a_ (h:=wo_nil (e_ (h:=aft_normal (wc_block (?_))))))))))))
  refine wc_loop (l_bubC a b i N hN hb hi1 (by omega) (i,r) ⟨by simp only;omega,by simp,hi2⟩ _ (by simp [normE])) ?_
  refine blk_exit (blk_normal (aft_normal (wc_region (w_ (m_ (h:=w_ (b_ (h:=w_ (a_ (h:=wo_nil (e_ (h:=?_))))))))))))
  )
 all_goals first
 | (refine (ih ((i + 1,bub ltC a i r)) (⟨by simp only;omega,by simp;omega⟩) ?_ _ ?_).trans ?_;(focus (first | omega | (simp;done) | (simp;omega)));(focus (simp [normE,hw];done));(focus (rw [show b - i = (b - (i + 1)) + 1 by omega];rfl)))
 | (apply end_leaf (ex:=(Ext.exit 0)) 4 (some []);(focus (simp [normE];rfl));(focus (rw [show b - i = 0 by omega];rfl)))
theorem e_insC (a b : Nat) (l : List Ct) (hN : l.length < 2000000) (hb : b≤l.length) (ha : a < 2000000) : oc.call 139 [.iol 3 (cts l),.int .i64 a,.int .i64 b,.clo 90 []] = some (.tup [],[.lst true 3 (cts (ins ltC a b l))]) := by
 refine fun_s rfl cd139 rfl rfl rfl (by simp;rfl) (by simp;rfl) ?_
 have hw := wrap_succ (i:=a) (by omega)
 refine wa_ (wc_region (w_ (m_ (h:=w_ (b_ (h:=w_ (a_ (h:=wo_nil (e_ (h:=aft_normal (wc_block (?_))))))))))))
 refine wc_loop (l_insC a b l.length hN hb (a + 1,l) ⟨by simp,rfl⟩ _ (by simp [normE,hw])) ?_
 refine blk_exit (?_)
 all_goals (refine fin_ (hr:=res_nil) (h:=?_);(focus (simp [ins])))
theorem l_swR (n a0 b0 N : Nat) (hN : N < 2000000) (h1 : a0 + n≤b0) (h2 : b0 + n≤N) : ∀ x : Nat × (List Ct),(x.1≤n∧x.2.length = N)→∀ s,normE 5 (some [0,1,2,3,10]) s = ⟨[(0,.ref 0 0 N),(1,.int .i64 a0),(2,.int .i64 b0),(3,.int .i64 n),(10,.int .i64 x.1)],[(0,⟨false,true,3,cts x.2,0⟩)],5⟩ →
 oc.loop 153 1 s = some (.exit 0,⟨[],[(0,⟨false,true,3,cts (swR (n - x.1) (a0 + x.1) (b0 + x.1) x.2),0⟩)],5⟩) := by
 refine loop_ind (σ:=Nat × (List Ct)) (fun x => n - x.1) _ (fun x => ⟨[(0,.ref 0 0 N),(1,.int .i64 a0),(2,.int .i64 b0),(3,.int .i64 n),(10,.int .i64 x.1)],[(0,⟨false,true,3,cts x.2,0⟩)],5⟩) _ ?_
 rintro ⟨i,r⟩ hi ih s hs
 simp only at hi
 refine loop_s cd153 rfl rfl hs ?_
 obtain ⟨hi1,hi2⟩ := hi
 refine wa_ (wa_ (wc_region (w_ (m_ (h:=w_ (m_ (h:=w_ (b_ (h:=wo_nil (e_ (h:=aft_normal (?_))))))))))))
 refine c_ (h1:=?_) (h2:=?_)
 rotate_right 1
 focus
  intro c1
  first
  | exact dn c1
  | (
   have d1 := c1;try simp at d1
   refine wc_exit (?_)
   )
 rotate_right 1
 focus
  intro c1
  first
  | exact dn c1
  | (
   have d1 := c1;try simp at d1
   have hw := wrap_succ (i:=i) (by omega);have g1 : (cts r)[a0 + i]? = some (nth r (a0 + i)).v := cts_nth (by omega);have g2 : (cts r)[b0 + i]? = some (nth r (b0 + i)).v := cts_nth (by omega);have g3 : (cts (r.set (a0 + i) (nth r (b0 + i))))[b0 + i]? = some (nth (r.set (a0 + i) (nth r (b0 + i))) (b0 + i)).v := cts_nth (by simp;omega)
   refine wc_skip (?_)
   )
 all_goals first
 | refine aft_exit ?_
 | (
  refine aft_normal ?_
  refine wa_ (wc_block (wc_draw (y_ (m_ (h:=ax_ (h:=y_ (m_ (h:=ax_ (h:=y_ (m_ (h:=ax_ (h:=y_ (?_)))))))))))))
  refine b_ (hv:=iv_add (c:=a0 + i) (by omega) (by omega)) (h:=?_)
  refine ax_ (h:=y_ (m_ (h:=ax_ (h:=y_ (m_ (h:=ax_ (h:=y_ (m_ (h:=ax_ (h:=y_ (?_)))))))))))
  refine b_ (hv:=iv_add (c:=b0 + i) (by omega) (by omega)) (h:=?_)
  refine ax_ (h:=y_ (m_ (h:=ax_ (h:=y_ (m_ (h:=ax_ (h:=y_ (m_ (h:=ax_ (h:=y_ (?_)))))))))))
  refine b_ (hv:=iv_add (c:=b0 + i) (by omega) (by omega)) (h:=?_)
  refine ax_ (h:=y_ (x_ (h:=ax_ (h:=y_ (l_ (h:=ax_ (h:=y_ (m_ (h:=ax_ (h:=y_ (m_ (h:=ax_ (h:=y_ (m_ (h:=ax_ (h:=y_ (?_)))))))))))))))))
  refine b_ (hv:=iv_add (c:=a0 + i) (by omega) (by omega)) (h:=?_)
  refine ax_ (h:=y_ (x_ (h:=ax_ (h:=y_ (l_ (h:=ax_ (h:=y_ (x_ (h:=ax_ (h:=y0 (s_ (h:=ax_ (h:=y_ (x_ (h:=ax_ (h:=y0 (s_ (h:=ax_ (h:=wo_nil (ed (h:=blk_normal (aft_normal (wc_region (w_ (m_ (h:=?_))))))))))))))))))))))))))
  refine w_ (b_ (h:=w_ (a_ (h:=wo_nil (e_ (h:=?_))))))
  )
 all_goals first
 | (refine (ih ((i + 1,swp r (a0 + i) (b0 + i))) (⟨by simp only;omega,by simp;omega⟩) ?_ _ ?_).trans ?_;(focus (first | omega | (simp;done) | (simp;omega)));(focus (simp [normE,hw,cts_setS,swp,tnat];done));(focus (rw [show n - i = (n - (i + 1)) + 1 by omega];rfl)))
 | (apply end_leaf (ex:=(Ext.exit 0)) 5 (some []);(focus (simp [normE];rfl));(focus (rw [show n - i = 0 by omega];rfl)))
theorem e_swR (a b n : Nat) (l : List Ct) (hN : l.length < 2000000) (h1 : a + n≤b) (h2 : b + n≤l.length) : oc.call 153 [.iol 3 (cts l),.int .i64 a,.int .i64 b,.int .i64 n,.clo 90 []] = some (.tup [],[.lst true 3 (cts (swR n a b l))]) := by
 refine fun_s rfl cd153 rfl rfl rfl (by simp;rfl) (by simp;rfl) ?_
 refine wa_ (wc_region (w_ (a_ (h:=wo_nil (e_ (h:=aft_normal (wc_block (?_))))))))
 refine wc_loop (l_swR n a b l.length hN h1 h2 (0,l) ⟨by simp,rfl⟩ _ (by simp [normE])) ?_
 refine blk_exit (?_)
 all_goals (refine fin_ (hr:=res_nil) (h:=?_);(focus (simp)))
theorem cts_alk : ∀ {l m : List Ct},l.length = m.length→V.alikeL (cts l) (cts m) = true
  | [],[],_ => rfl
  | [],_ :: _,h => by cases h
  | _ :: _,[],h => by cases h
  | x :: l,y :: m,h => by
    have ih := cts_alk (l:=l) (m:=m) (by simpa using h)
    simp only [cts,List.map_cons,V.alikeL] at ih ⊢
    rw [ih];rfl
theorem rot_0 {α : Type} [Inhabited α] {m i j : Nat} {l : List α} (hi : 0 < i) (h : i = j) : rot m i j l = swR i (m - i) m l := by
  unfold rot;rw [if_neg (by omega),if_pos h]
theorem rot_1 {α : Type} [Inhabited α] {m i j : Nat} {l : List α} (hj : 0 < j) (h : j < i) : rot m i j l = rot m (i - j) j (swR j (m - i) m l) := by
  conv => lhs;unfold rot
  rw [if_neg (by omega),if_neg (by omega),if_pos h]
theorem rot_2 {α : Type} [Inhabited α] {m i j : Nat} {l : List α} (hi : 0 < i) (h : i < j) : rot m i j l = rot m i (j - i) (swR i (m - i) (m + j - i) l) := by
  conv => lhs;unfold rot
  rw [if_neg (by omega),if_neg (by omega),if_neg (by omega)]
def rotP (m i j : Nat) (l : List Ct) : Nat × List Ct :=
  if i = 0∨j = 0∨i = j then (i,l) else if j < i then rotP m (i - j) j (swR j (m - i) m l) else rotP m i (j - i) (swR i (m - i) (m + j - i) l)
termination_by i + j
decreasing_by all_goals omega
theorem rotP_0 {m i j : Nat} {l : List Ct} (h : i = j) : rotP m i j l = (i,l) := by
  unfold rotP;rw [if_pos (by omega)]
theorem rotP_1 {m i j : Nat} {l : List Ct} (hj : 0 < j) (h : j < i) : rotP m i j l = rotP m (i - j) j (swR j (m - i) m l) := by
  conv => lhs;unfold rotP
  rw [if_neg (by omega),if_pos h]
theorem rotP_2 {m i j : Nat} {l : List Ct} (hi : 0 < i) (h : i < j) : rotP m i j l = rotP m i (j - i) (swR i (m - i) (m + j - i) l) := by
  conv => lhs;unfold rotP
  rw [if_neg (by omega),if_neg (by omega)]
theorem rotP_ok {m : Nat} : ∀ (i j : Nat) (l : List Ct),0 < i→0 < j→i≤m→m + j≤l.length→0 < (rotP m i j l).1∧(rotP m i j l).1≤i∧(rotP m i j l).1≤j∧(rotP m i j l).2.length = l.length∧swR (rotP m i j l).1 (m - (rotP m i j l).1) m (rotP m i j l).2 = rot m i j l := by
  intro i j
  induction hd : i + j using Nat.strongRecOn generalizing i j with
  | _ d ih =>
    subst hd
    intro l h1 h2 h3 h4
    rcases Nat.lt_trichotomy i j with h | h | h
    · have hs := (swR_ok (n:=i) (a:=m - i) (b:=m + j - i) (l:=l) (by omega) (by omega)).1.length_eq
      rw [rotP_2 h1 h,rot_2 h1 h]
      obtain ⟨a,b,c,d,e⟩ := ih (i + (j - i)) (by omega) i (j - i) rfl (swR i (m - i) (m + j - i) l) h1 (by omega) h3 (by omega)
      exact ⟨a,b,by omega,d.trans hs,e⟩
    · rw [rotP_0 h,rot_0 h1 h]
      exact ⟨h1,Nat.le_refl _,by simp only;omega,rfl,rfl⟩
    · have hs := (swR_ok (n:=j) (a:=m - i) (b:=m) (l:=l) (by omega) (by omega)).1.length_eq
      rw [rotP_1 h2 h,rot_1 h2 h]
      obtain ⟨a,b,c,d,e⟩ := ih (i - j + j) (by omega) (i - j) j rfl (swR j (m - i) m l) (by omega) h2 (by omega) (by omega)
      exact ⟨a,by omega,c,d.trans hs,e⟩
theorem l_rot (m N : Nat) (hN : N < 2000000) : ∀ x : Nat × Nat × (List Ct),(0 < x.1∧0 < x.2.1∧x.1≤m∧m + x.2.1≤N∧x.2.2.length = N)→∀ s,normE 5 (some [0,2,4,10,11]) s = ⟨[(0,.ref 0 0 N),(2,.int .i64 m),(4,.clo 90 []),(10,.int .i64 x.1),(11,.int .i64 x.2.1)],[(0,⟨false,true,3,cts x.2.2,0⟩)],5⟩ →
 oc.loop 149 2 s = some (.exit 0,⟨[(0,.ref 0 0 N),(2,.int .i64 m),(4,.clo 90 []),(10,.int .i64 ((rotP m x.1 x.2.1 x.2.2).1 : Nat))],[(0,⟨false,true,3,cts (rotP m x.1 x.2.1 x.2.2).2,0⟩)],5⟩) := by
 refine loop_ind (σ:=Nat × Nat × (List Ct)) (fun x => x.1 + x.2.1) _ (fun x => ⟨[(0,.ref 0 0 N),(2,.int .i64 m),(4,.clo 90 []),(10,.int .i64 x.1),(11,.int .i64 x.2.1)],[(0,⟨false,true,3,cts x.2.2,0⟩)],5⟩) _ ?_
 rintro ⟨i,j,r⟩ hi ih s hs
 simp only at hi
 refine loop_s cd149 rfl rfl hs ?_
 obtain ⟨hi1,hi2,hi3,hi4,hi5⟩ := hi
 refine wa_ (wa_ (wc_region (w_ (m_ (h:=w_ (m_ (h:=w_ (bE (h:=wo_nil (e_ (h:=aft_normal (?_))))))))))))
 refine c_ (h1:=?_) (h2:=?_)
 rotate_right 1
 focus
  intro c1
  first
  | exact dn c1
  | (
   have d1 := c1;try simp at d1
   refine wc_exit (?_)
   )
 rotate_right 1
 focus
  intro c1
  first
  | exact dn c1
  | (
   have d1 := c1;try simp at d1
   refine wc_skip (?_)
   )
 all_goals first
 | refine aft_exit ?_
 | (
  refine aft_normal ?_
  refine wc_block (wa_ (wc_region (w_ (m_ (h:=w_ (m_ (h:=w_ (b_ (h:=wo_nil (e_ (h:=aft_normal (?_))))))))))))
  refine c_ (h1:=?_) (h2:=?_)
  rotate_right 1
  focus
   intro c2
   first
   | exact dn c2
   | (
    have d2 := c2;try simp at d2
    have hij : i < j := (by simp at *;omega);have hsl := (swR_ok (n:=i) (a:=m - i) (b:=m + j - i) (l:=r) (by omega) (by omega)).1.length_eq
    refine wa_ (wc_region (w_ (m_ (h:=w_ (m_ (h:=w_ (m_ (h:=w_ (?_)))))))))
    refine b_ (hv:=iv_sub (c:=m - i) (by simp only;omega) (by omega)) (h:=?_)
    refine w_ (m_ (h:=w_ (m_ (h:=w_ (?_)))))
    refine b_ (hv:=iv_add (c:=m + j) (by simp only;omega) (by omega)) (h:=?_)
    refine w_ (m_ (h:=w_ (?_)))
    refine b_ (hv:=iv_sub (c:=m + j - i) (by simp only;omega) (by omega)) (h:=?_)
    refine w_ (m_ (h:=w_ (m_ (h:=w_ (?_)))))
    refine cI (hc:=e_swR (m - i) (m + j - i) i r (by omega) (by omega) (by omega)) (hal:=cts_alk hsl.symm) (h:=?_)
    refine wo_nil (e_ (h:=aft_normal (wc_region (w_ (m_ (h:=w_ (m_ (h:=w_ (?_)))))))))
    refine b_ (hv:=iv_sub (c:=j - i) (by simp only;omega) (by omega)) (h:=?_)
    refine w_ (a_ (h:=wo_nil (e_ (h:=?_))))
    )
  rotate_right 1
  focus
   intro c2
   first
   | exact dn c2
   | (
    have d2 := c2;try simp at d2
    have hij : j < i := (by simp at *;omega);have hsl := (swR_ok (n:=j) (a:=m - i) (b:=m) (l:=r) (by omega) (by omega)).1.length_eq
    refine wa_ (wc_region (w_ (m_ (h:=w_ (m_ (h:=w_ (m_ (h:=w_ (?_)))))))))
    refine b_ (hv:=iv_sub (c:=m - i) (by simp only;omega) (by omega)) (h:=?_)
    refine w_ (m_ (h:=w_ (m_ (h:=w_ (m_ (h:=w_ (?_)))))))
    refine cI (hc:=e_swR (m - i) m j r (by omega) (by omega) (by omega)) (hal:=cts_alk hsl.symm) (h:=?_)
    refine wo_nil (e_ (h:=aft_normal (wc_region (w_ (m_ (h:=w_ (m_ (h:=w_ (?_)))))))))
    refine b_ (hv:=iv_sub (c:=i - j) (by simp only;omega) (by omega)) (h:=?_)
    refine w_ (a_ (h:=wo_nil (e_ (h:=?_))))
    )
  all_goals refine blk_normal ?_
  )
 all_goals first
 | (refine (ih ((i - j,j,swR j (m - i) m r)) (⟨by simp only;omega,by simp only;omega,by simp only;omega,by simp only;omega,by simp only;omega⟩) ?_ _ ?_).trans ?_;(focus (first | omega | (simp;done) | (simp;omega)));(focus (simp [normE,tnat];done));(focus (rw [rotP_1 (l:=r) hi2 hij])))
 | (refine (ih ((i,j - i,swR i (m - i) (m + j - i) r)) (⟨by simp only;omega,by simp only;omega,by simp only;omega,by simp only;omega,by simp only;omega⟩) ?_ _ ?_).trans ?_;(focus (first | omega | (simp;done) | (simp;omega)));(focus (simp [normE,tnat];done));(focus (rw [rotP_2 (l:=r) hi1 hij])))
 | (apply end_leaf (ex:=(Ext.exit 0)) 5 (some [0,2,4,10]);(focus (simp [normE];rfl));(focus (rw [rotP_0 (by simp at *;omega)])))
theorem e_rot (a m b : Nat) (l : List Ct) (hN : l.length < 2000000) (h1 : a < m) (h2 : m < b) (h3 : b≤l.length) : oc.call 149 [.iol 3 (cts l),.int .i64 a,.int .i64 m,.int .i64 b,.clo 90 []] = some (.tup [],[.lst true 3 (cts (rot m (m - a) (b - m) l))]) := by
 refine fun_s rfl cd149 rfl rfl rfl (by simp;rfl) (by simp;rfl) ?_
 obtain ⟨q1,q2,q3,q4,q5⟩ := rotP_ok (m:=m) (m - a) (b - m) l (by omega) (by omega) (by omega) (by omega)
 have hq := (swR_ok (n:=(rotP m (m - a) (b - m) l).1) (a:=m - (rotP m (m - a) (b - m) l).1) (b:=m) (l:=(rotP m (m - a) (b - m) l).2) (by omega) (by omega)).1.length_eq
 refine wa_ (wc_region (w_ (m_ (h:=w_ (m_ (h:=w_ (?_)))))))
 refine b_ (hv:=iv_sub (c:=m - a) (by omega) (by omega)) (h:=?_)
 refine w_ (a_ (h:=wo_nil (e_ (h:=aft_normal (wa_ (wc_region (w_ (m_ (h:=w_ (m_ (h:=w_ (?_))))))))))))
 refine b_ (hv:=iv_sub (c:=b - m) (by omega) (by omega)) (h:=?_)
 refine w_ (a_ (h:=wo_nil (e_ (h:=aft_normal (wa_ (wc_block (?_)))))))
 refine wc_loop (l_rot m l.length hN (m - a,b - m,l) ⟨by simp only;omega,by simp only;omega,by simp only;omega,by simp only;omega,rfl⟩ _ (by simp [normE])) ?_
 refine blk_exit (aft_normal (wc_region (w_ (m_ (h:=w_ (m_ (h:=w_ (m_ (h:=w_ (?_))))))))))
 refine b_ (hv:=iv_sub (c:=m - (rotP m (m - a) (b - m) l).1) (by simp only;omega) (by omega)) (h:=?_)
 refine w_ (m_ (h:=w_ (m_ (h:=w_ (m_ (h:=w_ (?_)))))))
 refine cI (hc:=e_swR (m - (rotP m (m - a) (b - m) l).1) m (rotP m (m - a) (b - m) l).1 (rotP m (m - a) (b - m) l).2 (by omega) (by omega) (by omega)) (hal:=cts_alk hq.symm) (h:=?_)
 refine wo_nil (e_ (h:=?_))
 all_goals (refine fin_ (hr:=res_nil) (h:=?_);(focus (simp [q5])))
section
variable {call : Call} {id base : Nat} {e : List (Nat × V)} {o : List (Nat × Ob)} {n : Nat} {t : TypeId} {K : V→List (Nat × Ob)→Prop}
theorem cvN {ts t' : TypeId} {x : Operand} {k0 k k1 : IntKind} {a : Int} {c : Nat} (h0 : cf.ints ts = some k0 := by exact tys_ok.ints _ _ rfl) (h1 : cf.ints t' = some k := by exact tys_ok.ints _ _ rfl) (hx : opV e x = some (.int k1 a) := by exact rfl) (hc : k.wrap a = c) (h : K (.int k c) o) : opK call cf id base e o n t (.convert ts t' x) K := cv h0 h1 hx (by rw [hc];exact h)
end
theorem u64_nat {c : Nat} (h : c < 4611686018427387904) : IntKind.u64.wrap (c : Int) = c := by
  unfold IntKind.wrap;simp [IntKind.bits,IntKind.signed];omega
theorem shr1 {c : Nat} : shiftV .shr (.int .u64 (c : Int)) (.int .u64 1) = some (.int .u64 ((c / 2 : Nat) : Int)) := by
  simp only [shiftV,if_neg (show ¬ (1 : Int) < 0 by omega),IntKind.bits]
  rw [Int.fdiv_eq_ediv_of_nonneg _ (by decide)]
  simp
theorem hlf_t {p : Nat→Bool} {i j : Nat} (h : i < j) (hp : p ((i + j) / 2) = true) : hlf p i j = hlf p ((i + j) / 2 + 1) j := by
  conv => lhs;unfold hlf
  rw [dif_pos h,if_pos hp]
theorem hlf_f {p : Nat→Bool} {i j : Nat} (h : i < j) (hp : p ((i + j) / 2) = false) : hlf p i j = hlf p i ((i + j) / 2) := by
  conv => lhs;unfold hlf
  rw [dif_pos h,if_neg (by simp [hp])]
theorem hlf_0 {p : Nat→Bool} {i j : Nat} (h : ¬ i < j) : hlf p i j = i := by
  unfold hlf;rw [dif_neg h]
theorem l_s3 (a N : Nat) (r : List Ct) (hN : N < 2000000) (hr : r.length = N) (ha : a < N) : ∀ x : Nat × Nat,(x.1≤x.2∧x.2≤N)→∀ s,normE 5 (some [0,1,4,10,11]) s = ⟨[(0,.ref 0 0 N),(1,.int .i64 a),(4,.clo 90 []),(10,.int .i64 x.1),(11,.int .i64 x.2)],[(0,⟨false,true,3,cts r,0⟩)],5⟩ →
 oc.loop 140 3 s = some (.exit 0,⟨[(0,.ref 0 0 N),(1,.int .i64 a),(10,.int .i64 (hlf (fun h => ltC (nth r h) (nth r a)) x.1 x.2 : Nat))],[(0,⟨false,true,3,cts r,0⟩)],5⟩) := by
 refine loop_ind (σ:=Nat × Nat) (fun x => x.2 - x.1) _ (fun x => ⟨[(0,.ref 0 0 N),(1,.int .i64 a),(4,.clo 90 []),(10,.int .i64 x.1),(11,.int .i64 x.2)],[(0,⟨false,true,3,cts r,0⟩)],5⟩) _ ?_
 rintro ⟨i,j⟩ hi ih s hs
 simp only at hi
 refine loop_s cd140 rfl rfl hs ?_
 obtain ⟨hi1,hi2⟩ := hi
 refine wa_ (wa_ (wc_region (w_ (m_ (h:=w_ (m_ (h:=w_ (b_ (h:=wo_nil (e_ (h:=aft_normal (?_))))))))))))
 refine c_ (h1:=?_) (h2:=?_)
 rotate_right 1
 focus
  intro c1
  first
  | exact dn c1
  | (
   have d1 := c1;try simp at d1
   refine wc_exit (?_)
   )
 rotate_right 1
 focus
  intro c1
  first
  | exact dn c1
  | (
   have d1 := c1;try simp at d1
   have g1 : (cts r)[(i + j) / 2]? = some (nth r ((i + j) / 2)).v := cts_nth (by omega);have g2 : (cts r)[a]? = some (nth r a).v := cts_nth (by omega)
   refine wc_skip (?_)
   )
 all_goals first
 | refine aft_exit ?_
 | (
  refine aft_normal ?_
  refine wc_block (wa_ (wc_region (w_ (m_ (h:=w_ (m_ (h:=w_ (?_))))))))
  refine b_ (hv:=iv_add (c:=i + j) (by simp) (by omega)) (h:=?_)
  refine w_ (?_)
  refine cvN (c:=i + j) (hc:=u64_nat (by omega)) (h:=?_)
  refine w_ (?_)
  refine sh (hv:=shr1) (h:=?_)
  refine w_ (?_)
  refine cvN (c:=(i + j) / 2) (hc:=wrap_nat (by omega)) (h:=?_)
  refine w_ (a_ (h:=wo_nil (e_ (h:=aft_normal (wa_ (wc_draw (y_ (m_ (h:=ax_ (h:=y_ (m_ (h:=ax_ (h:=y_ (m_ (h:=ax_ (h:=y_ (x_ (h:=ax_ (h:=y_ (l_ (h:=ax_ (h:=y_ (m_ (h:=ax_ (h:=y_ (m_ (h:=ax_ (h:=?_))))))))))))))))))))))))))))
  refine y_ (x_ (h:=ax_ (h:=y_ (l_ (h:=ax_ (h:=y_ (ca (hc:=e_byC (nth r ((i + j) / 2)) (nth r a)) (h:=ax_ (h:=y_ (b_ (h:=ax_ (h:=wo_nil (ed (h:=aft_normal (?_)))))))))))))))
  refine c_ (h1:=?_) (h2:=?_)
  rotate_right 1
  focus
   intro c2
   first
   | exact dn c2
   | (
    have d2 := c2;try simp at d2
    refine wc_region (w_ (m_ (h:=w_ (a_ (h:=wo_nil (e_ (h:=?_)))))))
    )
  rotate_right 1
  focus
   intro c2
   first
   | exact dn c2
   | (
    have d2 := c2;try simp at d2
    refine wc_region (w_ (m_ (h:=w_ (?_))))
    refine b_ (hv:=iv_add (c:=(i + j) / 2 + 1) (by simp) (by omega)) (h:=?_)
    refine w_ (a_ (h:=wo_nil (e_ (h:=?_))))
    )
  all_goals refine blk_normal ?_
  )
 all_goals first
 | (refine (ih (((i + j) / 2 + 1,j)) (⟨by simp only;omega,by simp only;omega⟩) ?_ _ ?_).trans ?_;(focus (first | omega | (simp;done) | (simp;omega)));(focus (simp [normE,tnat];done));(focus (rw [hlf_t (i:=i) (j:=j) (by omega) (by simp [ltC];omega)])))
 | (refine (ih ((i,(i + j) / 2)) (⟨by simp only;omega,by simp only;omega⟩) ?_ _ ?_).trans ?_;(focus (first | omega | (simp;done) | (simp;omega)));(focus (simp [normE,tnat];done));(focus (rw [hlf_f (i:=i) (j:=j) (by omega) (by simp [ltC];omega)])))
 | (apply end_leaf (ex:=(Ext.exit 0)) 5 (some [0,1,10]);(focus (simp [normE];rfl));(focus (rw [hlf_0 (i:=i) (j:=j) (by omega)])))
theorem l_s15 (m N : Nat) (r : List Ct) (hN : N < 2000000) (hr : r.length = N) (hm : m < N) : ∀ x : Nat × Nat,(x.1≤x.2∧x.2≤N)→∀ s,normE 5 (some [0,2,4,14,15]) s = ⟨[(0,.ref 0 0 N),(2,.int .i64 m),(4,.clo 90 []),(14,.int .i64 x.1),(15,.int .i64 x.2)],[(0,⟨false,true,3,cts r,0⟩)],5⟩ →
 oc.loop 140 15 s = some (.exit 4,⟨[(0,.ref 0 0 N),(2,.int .i64 m),(14,.int .i64 (hlf (fun h => !ltC (nth r m) (nth r h)) x.1 x.2 : Nat))],[(0,⟨false,true,3,cts r,0⟩)],5⟩) := by
 refine loop_ind (σ:=Nat × Nat) (fun x => x.2 - x.1) _ (fun x => ⟨[(0,.ref 0 0 N),(2,.int .i64 m),(4,.clo 90 []),(14,.int .i64 x.1),(15,.int .i64 x.2)],[(0,⟨false,true,3,cts r,0⟩)],5⟩) _ ?_
 rintro ⟨i,j⟩ hi ih s hs
 simp only at hi
 refine loop_s cd140 rfl rfl hs ?_
 obtain ⟨hi1,hi2⟩ := hi
 refine wa_ (wa_ (wc_region (w_ (m_ (h:=w_ (m_ (h:=w_ (b_ (h:=wo_nil (e_ (h:=aft_normal (?_))))))))))))
 refine c_ (h1:=?_) (h2:=?_)
 rotate_right 1
 focus
  intro c1
  first
  | exact dn c1
  | (
   have d1 := c1;try simp at d1
   refine wc_exit (?_)
   )
 rotate_right 1
 focus
  intro c1
  first
  | exact dn c1
  | (
   have d1 := c1;try simp at d1
   have g1 : (cts r)[(i + j) / 2]? = some (nth r ((i + j) / 2)).v := cts_nth (by omega);have g2 : (cts r)[m]? = some (nth r m).v := cts_nth (by omega)
   refine wc_skip (?_)
   )
 all_goals first
 | refine aft_exit ?_
 | (
  refine aft_normal ?_
  refine wc_block (wa_ (wc_region (w_ (m_ (h:=w_ (m_ (h:=w_ (?_))))))))
  refine b_ (hv:=iv_add (c:=i + j) (by simp) (by omega)) (h:=?_)
  refine w_ (?_)
  refine cvN (c:=i + j) (hc:=u64_nat (by omega)) (h:=?_)
  refine w_ (?_)
  refine sh (hv:=shr1) (h:=?_)
  refine w_ (?_)
  refine cvN (c:=(i + j) / 2) (hc:=wrap_nat (by omega)) (h:=?_)
  refine w_ (a_ (h:=wo_nil (e_ (h:=aft_normal (wa_ (wc_draw (y_ (m_ (h:=ax_ (h:=y_ (m_ (h:=ax_ (h:=y_ (m_ (h:=ax_ (h:=y_ (x_ (h:=ax_ (h:=y_ (l_ (h:=ax_ (h:=y_ (m_ (h:=ax_ (h:=y_ (m_ (h:=ax_ (h:=?_))))))))))))))))))))))))))))
  refine y_ (x_ (h:=ax_ (h:=y_ (l_ (h:=ax_ (h:=y_ (ca (hc:=e_byC (nth r m) (nth r ((i + j) / 2))) (h:=ax_ (h:=y_ (b_ (h:=ax_ (h:=y_ (u_ (h:=ax_ (h:=wo_nil (ed (h:=aft_normal (?_))))))))))))))))))
  refine c_ (h1:=?_) (h2:=?_)
  rotate_right 1
  focus
   intro c2
   first
   | exact dn c2
   | (
    have d2 := c2;try simp at d2
    refine wc_region (w_ (m_ (h:=w_ (a_ (h:=wo_nil (e_ (h:=?_)))))))
    )
  rotate_right 1
  focus
   intro c2
   first
   | exact dn c2
   | (
    have d2 := c2;try simp at d2
    refine wc_region (w_ (m_ (h:=w_ (?_))))
    refine b_ (hv:=iv_add (c:=(i + j) / 2 + 1) (by simp) (by omega)) (h:=?_)
    refine w_ (a_ (h:=wo_nil (e_ (h:=?_))))
    )
  all_goals refine blk_normal ?_
  )
 all_goals first
 | (refine (ih (((i + j) / 2 + 1,j)) (⟨by simp only;omega,by simp only;omega⟩) ?_ _ ?_).trans ?_;(focus (first | omega | (simp;done) | (simp;omega)));(focus (simp [normE,tnat];done));(focus (rw [hlf_t (i:=i) (j:=j) (by omega) (by simp [ltC];omega)])))
 | (refine (ih ((i,(i + j) / 2)) (⟨by simp only;omega,by simp only;omega⟩) ?_ _ ?_).trans ?_;(focus (first | omega | (simp;done) | (simp;omega)));(focus (simp [normE,tnat];done));(focus (rw [hlf_f (i:=i) (j:=j) (by omega) (by simp [ltC];omega)])))
 | (apply end_leaf (ex:=(Ext.exit 4)) 5 (some [0,2,14]);(focus (simp [normE];rfl));(focus (rw [hlf_0 (i:=i) (j:=j) (by omega)])))
theorem l_s9 (i N : Nat) (hN : N < 2000000) (hi1 : 1≤i) (hiN : i≤N) : ∀ x : Nat × (List Ct),(x.1≤i - 1∧x.2.length = N)→∀ s,normE 5 (some [0,10,13]) s = ⟨[(0,.ref 0 0 N),(10,.int .i64 i),(13,.int .i64 x.1)],[(0,⟨false,true,3,cts x.2,0⟩)],5⟩ →
 oc.loop 140 9 s = some (.exit 2,⟨[],[(0,⟨false,true,3,cts (mvU (i - 1 - x.1) x.1 x.2),0⟩)],5⟩) := by
 refine loop_ind (σ:=Nat × (List Ct)) (fun x => i - 1 - x.1) _ (fun x => ⟨[(0,.ref 0 0 N),(10,.int .i64 i),(13,.int .i64 x.1)],[(0,⟨false,true,3,cts x.2,0⟩)],5⟩) _ ?_
 rintro ⟨k,r⟩ hi ih s hs
 simp only at hi
 refine loop_s cd140 rfl rfl hs ?_
 obtain ⟨hk1,hk2⟩ := hi
 refine wa_ (wa_ (wc_region (w_ (m_ (h:=w_ (m_ (h:=w_ (?_))))))))
 refine b_ (hv:=iv_sub (c:=i - 1) (by omega) (by omega)) (h:=?_)
 refine w_ (b_ (h:=wo_nil (e_ (h:=aft_normal (?_)))))
 refine c_ (h1:=?_) (h2:=?_)
 rotate_right 1
 focus
  intro c1
  first
  | exact dn c1
  | (
   have d1 := c1;try simp at d1
   have hki : ¬ k < i - 1 := (by simp at c1;omega)
   refine wc_exit (?_)
   )
 rotate_right 1
 focus
  intro c1
  first
  | exact dn c1
  | (
   have d1 := c1;try simp at d1
   have hki : k < i - 1 := (by simp at c1;omega);have g1 : (cts r)[k]? = some (nth r k).v := cts_nth (by omega);have g2 : (cts r)[k + 1]? = some (nth r (k + 1)).v := cts_nth (by omega);have g3 : (cts (r.set k (nth r (k + 1))))[k + 1]? = some (nth (r.set k (nth r (k + 1))) (k + 1)).v := cts_nth (by simp;omega)
   refine wc_skip (?_)
   )
 all_goals first
 | refine aft_exit ?_
 | (
  refine aft_normal ?_
  refine wa_ (wc_block (wc_draw (y_ (m_ (h:=ax_ (h:=y_ (m_ (h:=ax_ (h:=y_ (m_ (h:=ax_ (h:=y_ (m_ (h:=ax_ (h:=y_ (?_))))))))))))))))
  refine b_ (hv:=iv_add (c:=k + 1) (by simp) (by omega)) (h:=?_)
  refine ax_ (h:=y_ (m_ (h:=ax_ (h:=y_ (m_ (h:=ax_ (h:=y_ (?_))))))))
  refine b_ (hv:=iv_add (c:=k + 1) (by simp) (by omega)) (h:=?_)
  refine ax_ (h:=y_ (x_ (h:=ax_ (h:=y_ (l_ (h:=ax_ (h:=y_ (m_ (h:=ax_ (h:=y_ (m_ (h:=ax_ (h:=y_ (x_ (h:=ax_ (h:=y_ (l_ (h:=ax_ (h:=y_ (x_ (h:=ax_ (h:=y0 (s_ (h:=ax_ (h:=y_ (x_ (h:=ax_ (h:=y0 (s_ (h:=ax_ (h:=wo_nil (ed (h:=?_)))))))))))))))))))))))))))))))))
  refine blk_normal (aft_normal (wc_region (w_ (m_ (h:=w_ (?_))))))
  refine b_ (hv:=iv_add (c:=k + 1) (by simp) (by omega)) (h:=?_)
  refine w_ (a_ (h:=wo_nil (e_ (h:=?_))))
  )
 all_goals first
 | (refine (ih ((k + 1,swp r k (k + 1))) (⟨by simp only;omega,by simp;omega⟩) ?_ _ ?_).trans ?_;(focus (first | omega | (simp;done) | (simp;omega)));(focus (simp [normE,cts_setS,swp,tnat];done));(focus (rw [show i - 1 - k = (i - 1 - (k + 1)) + 1 by omega];rfl)))
 | (apply end_leaf (ex:=(Ext.exit 2)) 5 (some []);(focus (simp [normE];rfl));(focus (rw [show i - 1 - k = 0 by omega];rfl)))
theorem l_s21 (i N : Nat) (hN : N < 2000000) : ∀ x : Nat × (List Ct),(i≤x.1∧x.1 < N∧x.2.length = N)→∀ s,normE 5 (some [0,14,17]) s = ⟨[(0,.ref 0 0 N),(14,.int .i64 i),(17,.int .i64 x.1)],[(0,⟨false,true,3,cts x.2,0⟩)],5⟩ →
 oc.loop 140 21 s = some (.exit 6,⟨[],[(0,⟨false,true,3,cts (mvD (x.1 - i) x.1 x.2),0⟩)],5⟩) := by
 refine loop_ind (σ:=Nat × (List Ct)) (fun x => x.1 - i) _ (fun x => ⟨[(0,.ref 0 0 N),(14,.int .i64 i),(17,.int .i64 x.1)],[(0,⟨false,true,3,cts x.2,0⟩)],5⟩) _ ?_
 rintro ⟨k,r⟩ hi ih s hs
 simp only at hi
 refine loop_s cd140 rfl rfl hs ?_
 obtain ⟨hk1,hk2,hk3⟩ := hi
 refine wa_ (wa_ (wc_region (w_ (m_ (h:=w_ (m_ (h:=w_ (b_ (h:=wo_nil (e_ (h:=aft_normal (?_))))))))))))
 refine c_ (h1:=?_) (h2:=?_)
 rotate_right 1
 focus
  intro c1
  first
  | exact dn c1
  | (
   have d1 := c1;try simp at d1
   have hki : ¬ i < k := (by simp at c1;omega)
   refine wc_exit (?_)
   )
 rotate_right 1
 focus
  intro c1
  first
  | exact dn c1
  | (
   have d1 := c1;try simp at d1
   have hki : i < k := (by simp at c1;omega);have g1 : (cts r)[k]? = some (nth r k).v := cts_nth (by omega);have g2 : (cts r)[k - 1]? = some (nth r (k - 1)).v := cts_nth (by omega);have g3 : (cts (r.set k (nth r (k - 1))))[k - 1]? = some (nth (r.set k (nth r (k - 1))) (k - 1)).v := cts_nth (by simp;omega)
   refine wc_skip (?_)
   )
 all_goals first
 | refine aft_exit ?_
 | (
  refine aft_normal ?_
  refine wa_ (wc_block (wc_draw (y_ (m_ (h:=ax_ (h:=y_ (m_ (h:=ax_ (h:=y_ (m_ (h:=ax_ (h:=y_ (m_ (h:=ax_ (h:=y_ (?_))))))))))))))))
  refine b_ (hv:=iv_sub (c:=k - 1) (by omega) (by omega)) (h:=?_)
  refine ax_ (h:=y_ (m_ (h:=ax_ (h:=y_ (m_ (h:=ax_ (h:=y_ (?_))))))))
  refine b_ (hv:=iv_sub (c:=k - 1) (by omega) (by omega)) (h:=?_)
  refine ax_ (h:=y_ (x_ (h:=ax_ (h:=y_ (l_ (h:=ax_ (h:=y_ (m_ (h:=ax_ (h:=y_ (m_ (h:=ax_ (h:=y_ (x_ (h:=ax_ (h:=y_ (l_ (h:=ax_ (h:=y_ (x_ (h:=ax_ (h:=y0 (s_ (h:=ax_ (h:=y_ (x_ (h:=ax_ (h:=y0 (s_ (h:=ax_ (h:=wo_nil (ed (h:=?_)))))))))))))))))))))))))))))))))
  refine blk_normal (aft_normal (wc_region (w_ (m_ (h:=w_ (?_))))))
  refine b_ (hv:=iv_sub (c:=k - 1) (by omega) (by omega)) (h:=?_)
  refine w_ (a_ (h:=wo_nil (e_ (h:=?_))))
  )
 all_goals first
 | (refine (ih ((k - 1,swp r k (k - 1))) (⟨by simp only;omega,by simp only;omega,by simp;omega⟩) ?_ _ ?_).trans ?_;(focus (first | omega | (simp;done) | (simp;omega)));(focus (simp [normE,cts_setS,swp,tnat];done));(focus (rw [show k - i = (k - 1 - i) + 1 by omega];rfl)))
 | (apply end_leaf (ex:=(Ext.exit 6)) 5 (some []);(focus (simp [normE];rfl));(focus (rw [show k - i = 0 by omega];rfl)))
theorem l_s33 (a m b mid lo hi0 N : Nat) (r : List Ct) (hN : N < 2000000) (hr : r.length = N) (h1 : hi0≤N) (h2 : hi0≤mid + m) (h3 : mid + m≤N + lo) (h4 : m≤N) (h5 : mid≤N) : ∀ x : Nat × Nat,(lo≤x.1∧x.1≤x.2∧x.2≤hi0)→∀ s,normE 5 (some [0,1,2,3,4,18,19,20,21,22]) s = ⟨[(0,.ref 0 0 N),(1,.int .i64 a),(2,.int .i64 m),(3,.int .i64 b),(4,.clo 90 []),(18,.int .i64 mid),(19,.int .i64 (mid + m : Nat)),(20,.int .i64 x.1),(21,.int .i64 x.2),(22,.int .i64 (mid + m - 1 : Nat))],[(0,⟨false,true,3,cts r,0⟩)],5⟩ →
 oc.loop 140 33 s = some (.exit 8,⟨[(0,.ref 0 0 N),(1,.int .i64 a),(2,.int .i64 m),(3,.int .i64 b),(4,.clo 90 []),(18,.int .i64 mid),(19,.int .i64 (mid + m : Nat)),(20,.int .i64 (hlf (fun c => !ltC (nth r (mid + m - 1 - c)) (nth r c)) x.1 x.2 : Nat))],[(0,⟨false,true,3,cts r,0⟩)],5⟩) := by
 refine loop_ind (σ:=Nat × Nat) (fun x => x.2 - x.1) _ (fun x => ⟨[(0,.ref 0 0 N),(1,.int .i64 a),(2,.int .i64 m),(3,.int .i64 b),(4,.clo 90 []),(18,.int .i64 mid),(19,.int .i64 (mid + m : Nat)),(20,.int .i64 x.1),(21,.int .i64 x.2),(22,.int .i64 (mid + m - 1 : Nat))],[(0,⟨false,true,3,cts r,0⟩)],5⟩) _ ?_
 rintro ⟨i,j⟩ hi ih s hs
 simp only at hi
 refine loop_s cd140 rfl rfl hs ?_
 obtain ⟨hi1,hi2,hi3⟩ := hi
 refine wa_ (wa_ (wc_region (w_ (m_ (h:=w_ (m_ (h:=w_ (b_ (h:=wo_nil (e_ (h:=aft_normal (?_))))))))))))
 refine c_ (h1:=?_) (h2:=?_)
 rotate_right 1
 focus
  intro c1
  first
  | exact dn c1
  | (
   have d1 := c1;try simp at d1
   refine wc_exit (?_)
   )
 rotate_right 1
 focus
  intro c1
  first
  | exact dn c1
  | (
   have d1 := c1;try simp at d1
   have hc1 : mid + m - 1 - (i + j) / 2 < r.length := (by omega);have g1 : (cts r)[(i + j) / 2]? = some (nth r ((i + j) / 2)).v := cts_nth (by omega);have g2 : (cts r)[mid + m - 1 - (i + j) / 2]? = some (nth r (mid + m - 1 - (i + j) / 2)).v := cts_nth hc1
   refine wc_skip (?_)
   )
 all_goals first
 | refine aft_exit ?_
 | (
  refine aft_normal ?_
  refine wc_block (wa_ (wc_region (w_ (m_ (h:=w_ (m_ (h:=w_ (?_))))))))
  refine b_ (hv:=iv_add (c:=i + j) (by simp) (by omega)) (h:=?_)
  refine w_ (?_)
  refine cvN (c:=i + j) (hc:=u64_nat (by omega)) (h:=?_)
  refine w_ (?_)
  refine sh (hv:=shr1) (h:=?_)
  refine w_ (?_)
  refine cvN (c:=(i + j) / 2) (hc:=wrap_nat (by omega)) (h:=?_)
  refine w_ (a_ (h:=wo_nil (e_ (h:=aft_normal (wa_ (wc_draw (y_ (m_ (h:=ax_ (h:=y_ (m_ (h:=ax_ (h:=y_ (m_ (h:=ax_ (h:=y_ (m_ (h:=ax_ (h:=y_ (?_))))))))))))))))))))
  refine b_ (hv:=iv_sub (c:=mid + m - 1 - (i + j) / 2) (by omega) (by omega)) (h:=?_)
  refine ax_ (h:=y_ (x_ (h:=ax_ (h:=y_ (l_ (h:=ax_ (h:=y_ (m_ (h:=ax_ (h:=y_ (m_ (h:=ax_ (h:=y_ (x_ (h:=ax_ (h:=y_ (l_ (h:=ax_ (h:=y_ (ca (hc:=e_byC (nth r (mid + m - 1 - (i + j) / 2)) (nth r ((i + j) / 2))) (h:=ax_ (h:=y_ (b_ (h:=ax_ (h:=y_ (u_ (h:=ax_ (h:=wo_nil (ed (h:=aft_normal (?_)))))))))))))))))))))))))))))))
  refine c_ (h1:=?_) (h2:=?_)
  rotate_right 1
  focus
   intro c2
   first
   | exact dn c2
   | (
    have d2 := c2;try simp at d2
    refine wc_region (w_ (m_ (h:=w_ (a_ (h:=wo_nil (e_ (h:=?_)))))))
    )
  rotate_right 1
  focus
   intro c2
   first
   | exact dn c2
   | (
    have d2 := c2;try simp at d2
    refine wc_region (w_ (m_ (h:=w_ (?_))))
    refine b_ (hv:=iv_add (c:=(i + j) / 2 + 1) (by simp) (by omega)) (h:=?_)
    refine w_ (a_ (h:=wo_nil (e_ (h:=?_))))
    )
  all_goals refine blk_normal ?_
  )
 all_goals first
 | (refine (ih (((i + j) / 2 + 1,j)) (⟨by simp only;omega,by simp only;omega,by simp only;omega⟩) ?_ _ ?_).trans ?_;(focus (first | omega | (simp;done) | (simp;omega)));(focus (simp [normE,tnat];done));(focus (rw [hlf_t (i:=i) (j:=j) (by omega) (by simp [ltC];omega)])))
 | (refine (ih ((i,(i + j) / 2)) (⟨by simp only;omega,by simp only;omega,by simp only;omega⟩) ?_ _ ?_).trans ?_;(focus (first | omega | (simp;done) | (simp;omega)));(focus (simp [normE,tnat];done));(focus (rw [hlf_f (i:=i) (j:=j) (by omega) (by simp [ltC];omega)])))
 | (apply end_leaf (ex:=(Ext.exit 8)) 5 (some [0,1,2,3,4,18,19,20]);(focus (simp [normE];rfl));(focus (rw [hlf_0 (i:=i) (j:=j) (by omega)];simp)))
theorem symS_a {lt : Ct→Ct→Bool} {a m b : Nat} {l : List Ct} (h : (a + b) / 2 < m) : symS lt a m b l = hlf (fun c => !lt (nth l ((a + b) / 2 + m - 1 - c)) (nth l c)) ((a + b) / 2 + m - b) ((a + b) / 2) := by
  unfold symS;rw [if_pos h]
theorem symS_b {lt : Ct→Ct→Bool} {a m b : Nat} {l : List Ct} (h : ¬ (a + b) / 2 < m) : symS lt a m b l = hlf (fun c => !lt (nth l ((a + b) / 2 + m - 1 - c)) (nth l c)) a m := by
  unfold symS;rw [if_neg h]
theorem symS_in {lt : Ct→Ct→Bool} {a m b : Nat} {l : List Ct} (h1 : a < m) (h2 : m < b) : symS lt a m b l≤m∧symS lt a m b l≤(a + b) / 2∧a≤symS lt a m b l∧(a + b) / 2 + m - symS lt a m b l≤b := by
  by_cases h : (a + b) / 2 < m
  · rw [symS_a h]
    have := hlf_ok (p:=fun c => !lt (nth l ((a + b) / 2 + m - 1 - c)) (nth l c)) ((a + b) / 2 + m - b) ((a + b) / 2) (by omega)
    omega
  · rw [symS_b h]
    have := hlf_ok (p:=fun c => !lt (nth l ((a + b) / 2 + m - 1 - c)) (nth l c)) a m (by omega)
    omega
theorem l_sym (a m b N : Nat) (r : List Ct) (hN : N < 2000000) (hr : r.length = N) (h1 : a < m) (h2 : m < b) (hb : b≤N) (i j : Nat) (h : (a + b) / 2 < m∧i = (a + b) / 2 + m - b∧j = (a + b) / 2∨¬ (a + b) / 2 < m∧i = a∧j = m) : ∀ s,normE 5 (some [0,1,2,3,4,18,19,20,21,22]) s = ⟨[(0,.ref 0 0 N),(1,.int .i64 a),(2,.int .i64 m),(3,.int .i64 b),(4,.clo 90 []),(18,.int .i64 ((a + b) / 2 : Nat)),(19,.int .i64 ((a + b) / 2 + m : Nat)),(20,.int .i64 i),(21,.int .i64 j),(22,.int .i64 ((a + b) / 2 + m - 1 : Nat))],[(0,⟨false,true,3,cts r,0⟩)],5⟩ →
    oc.loop 140 33 s = some (.exit 8,⟨[(0,.ref 0 0 N),(1,.int .i64 a),(2,.int .i64 m),(3,.int .i64 b),(4,.clo 90 []),(18,.int .i64 ((a + b) / 2 : Nat)),(19,.int .i64 ((a + b) / 2 + m : Nat)),(20,.int .i64 (symS ltC a m b r : Nat))],[(0,⟨false,true,3,cts r,0⟩)],5⟩) := by
  rcases h with ⟨h,rfl,rfl⟩ | ⟨h,rfl,rfl⟩
  · rw [symS_a h]
    exact l_s33 a m b ((a + b) / 2) ((a + b) / 2 + m - b) ((a + b) / 2) N r hN hr (by omega) (by omega) (by omega) (by omega) (by omega) (_,_) ⟨Nat.le_refl _,by simp only;omega,Nat.le_refl _⟩
  · rw [symS_b h]
    exact l_s33 i j b ((i + b) / 2) i j N r hN hr (by omega) (by omega) (by omega) (by omega) (by omega) (_,_) ⟨Nat.le_refl _,by simp only;omega,Nat.le_refl _⟩
theorem symM_len {lt : Ct→Ct→Bool} : ∀ (f a m b : Nat) (l : List Ct),a < m→m < b→b≤l.length→(symM lt f a m b l).length = l.length
  | 0,a,m,b,l,h1,h2,hb => rfl
  | f + 1,a,m,b,l,h1,h2,hb => by
    unfold symM
    split
    · obtain ⟨q1,q2,_⟩ := hlf_ok (p:=fun h => lt (nth l h) (nth l a)) m b (by omega)
      exact (mvU_ok (by omega)).1.len
    · split
      · obtain ⟨q1,q2,_⟩ := hlf_ok (p:=fun h => !lt (nth l m) (nth l h)) a m (by omega)
        exact (mvD_ok (by omega) (by omega)).1.len
      · obtain ⟨r1,r2,r3,r4⟩ := symS_in (lt:=lt) (l:=l) h1 h2
        simp only
        generalize symS lt a m b l = s at *
        have hl1 := (cutR_nth (s:=s) (m:=m) (mid:=(a + b) / 2) (l:=l) r2 r1 (by omega)).1.length_eq
        generalize cutR s m ((a + b) / 2) l = l1 at *
        have hl2 : (if a < s∧s < (a + b) / 2 then symM lt f a s ((a + b) / 2) l1 else l1).length = l.length := by
          split
          · rename_i h
            exact (symM_len f a s ((a + b) / 2) l1 h.1 h.2 (by omega)).trans hl1
          · exact hl1
        generalize (if a < s∧s < (a + b) / 2 then symM lt f a s ((a + b) / 2) l1 else l1) = l2 at *
        split
        · rename_i h
          exact (symM_len f _ _ b l2 h.1 h.2 (by omega)).trans hl2
        · exact hl2
theorem symM_1 {lt : Ct→Ct→Bool} {f a m b : Nat} {l : List Ct} (h : m - a = 1) : symM lt (f + 1) a m b l = mvU (hlf (fun h => lt (nth l h) (nth l a)) m b - 1 - a) a l := by
  conv => lhs;unfold symM
  rw [if_pos h]
theorem symM_2 {lt : Ct→Ct→Bool} {f a m b : Nat} {l : List Ct} (h1 : ¬ m - a = 1) (h : b - m = 1) : symM lt (f + 1) a m b l = mvD (m - hlf (fun h => !lt (nth l m) (nth l h)) a m) m l := by
  conv => lhs;unfold symM
  rw [if_neg h1,if_pos h]
theorem e_symM : ∀ (f a m b : Nat) (l : List Ct),b - a≤f→a < m→m < b→b≤l.length→l.length < 2000000→oc.call 140 [.iol 3 (cts l),.int .i64 a,.int .i64 m,.int .i64 b,.clo 90 []] = some (.tup [],[.lst true 3 (cts (symM ltC f a m b l))]) := by
  intro f
  induction f with
  | zero => intro a m b l h0 h1 h2 h3 h4;omega
  | succ f ih =>
    intro a m b l h0 h1 h2 h3 h4
    obtain ⟨r1,r2,r3,r4⟩ := symS_in (lt:=ltC) (l:=l) h1 h2
    refine fun_s rfl cd140 rfl rfl rfl (by simp;rfl) (by simp;rfl) ?_
    refine wa_ (wa_ (wc_region (w_ (m_ (h:=w_ (m_ (h:=w_ (?_))))))))
    refine b_ (hv:=iv_sub (c:=m - a) (by omega) (by omega)) (h:=?_)
    refine w_ (bE (h:=wo_nil (e_ (h:=aft_normal (?_)))))
    refine c_ (h1:=?_) (h2:=?_)
    rotate_right 1
    focus
     intro c1
     first
     | exact dn c1
     | (have d1 := c1;try simp at d1
        have e1 : ¬ m - a = 1 := (by simp at c1;omega)
        refine wc_skip (?_)
        )
    rotate_right 1
    focus
     intro c1
     first
     | exact dn c1
     | (have d1 := c1;try simp at d1
        have e1 : m - a = 1 := (by simp at c1;omega);obtain ⟨q1,q2,_⟩ := hlf_ok (p:=fun h => ltC (nth l h) (nth l a)) m b (by omega)
        refine wa_ (wc_region (w_ (m_ (h:=w_ (a_ (h:=wo_nil (e_ (h:=aft_normal (wa_ (wc_region (w_ (m_ (h:=w_ (a_ (h:=wo_nil (e_ (h:=aft_normal (?_))))))))))))))))))
        refine wa_ (wc_block (?_))
        refine wc_loop (l_s3 a l.length l h4 rfl (by omega) (m,b) ⟨by simp only;omega,by simp only;omega⟩ _ (by simp [normE])) ?_
        refine blk_exit (aft_normal (wa_ (wa_ (wc_region (w_ (m_ (h:=w_ (a_ (h:=wo_nil (e_ (h:=aft_normal (wc_block (?_)))))))))))))
        refine wc_loop (l_s9 (hlf (fun h => ltC (nth l h) (nth l a)) m b) l.length h4 (by omega) (by omega) (a,l) ⟨by simp only;omega,rfl⟩ _ (by simp [normE])) ?_
        refine blk_exit (aft_normal (wc_ret (?_)))
        )
    all_goals first
    | refine aft_ret ?_
    | (refine aft_normal ?_
       refine wa_ (wa_ (wc_region (w_ (m_ (h:=w_ (m_ (h:=w_ (?_))))))))
       refine b_ (hv:=iv_sub (c:=b - m) (by omega) (by omega)) (h:=?_)
       refine w_ (bE (h:=wo_nil (e_ (h:=aft_normal (?_)))))
       refine c_ (h1:=?_) (h2:=?_)
       rotate_right 1
       focus
        intro c2
        first
        | exact dn c2
        | (have d2 := c2;try simp at d2
           have e2 : ¬ b - m = 1 := (by simp at c2;omega)
           refine wc_skip (?_)
           )
       rotate_right 1
       focus
        intro c2
        first
        | exact dn c2
        | (have d2 := c2;try simp at d2
           have e2 : b - m = 1 := (by simp at c2;omega);obtain ⟨q1,q2,_⟩ := hlf_ok (p:=fun h => !ltC (nth l m) (nth l h)) a m (by omega)
           refine wa_ (wc_region (w_ (m_ (h:=w_ (a_ (h:=wo_nil (e_ (h:=aft_normal (wa_ (wc_region (w_ (m_ (h:=w_ (a_ (h:=wo_nil (e_ (h:=aft_normal (?_))))))))))))))))))
           refine wa_ (wc_block (?_))
           refine wc_loop (l_s15 m l.length l h4 rfl (by omega) (a,m) ⟨by simp only;omega,by simp only;omega⟩ _ (by simp [normE])) ?_
           refine blk_exit (aft_normal (wa_ (wa_ (wc_region (w_ (m_ (h:=w_ (a_ (h:=wo_nil (e_ (h:=aft_normal (wc_block (?_)))))))))))))
           refine wc_loop (l_s21 (hlf (fun h => !ltC (nth l m) (nth l h)) a m) l.length h4 (m,l) ⟨by simp only;omega,by simp only;omega,rfl⟩ _ (by simp [normE])) ?_
           refine blk_exit (aft_normal (wc_ret (?_)))
           )
       all_goals first
       | refine aft_ret ?_
       | (refine aft_normal ?_
          refine wa_ (wc_region (w_ (m_ (h:=w_ (m_ (h:=w_ (?_)))))))
          refine b_ (hv:=iv_add (c:=a + b) (by simp) (by omega)) (h:=?_)
          refine w_ (?_)
          refine cvN (c:=a + b) (hc:=u64_nat (by omega)) (h:=?_)
          refine w_ (?_)
          refine sh (hv:=shr1) (h:=?_)
          refine w_ (?_)
          refine cvN (c:=(a + b) / 2) (hc:=wrap_nat (by omega)) (h:=?_)
          refine w_ (a_ (h:=wo_nil (e_ (h:=aft_normal (wa_ (wc_region (w_ (m_ (h:=w_ (m_ (h:=w_ (?_))))))))))))
          refine b_ (hv:=iv_add (c:=(a + b) / 2 + m) (by simp) (by omega)) (h:=?_)
          refine w_ (a_ (h:=wo_nil (e_ (h:=aft_normal (wa_ (wc_region (w_ (a_ (h:=w_ (a_ (h:=wo_nil (e_ (h:=aft_normal (wa_ (wa_ (wc_region (?_)))))))))))))))))
          refine w_ (m_ (h:=w_ (m_ (h:=w_ (b_ (h:=wo_nil (e_ (h:=aft_normal (?_)))))))))
          refine c_ (h1:=?_) (h2:=?_)
          rotate_right 1
          focus
           intro c3
           first
           | exact dn c3
           | (have d3 := c3;try simp at d3
              have e3 : ¬ (a + b) / 2 < m := (by simp at c3;omega);obtain ⟨i0,j0,hi0,hj0,hd⟩ : ∃ i j : Nat,i = a∧j = m∧((a + b) / 2 < m∧i = (a + b) / 2 + m - b∧j = (a + b) / 2∨¬ (a + b) / 2 < m∧i = a∧j = m) := ⟨_,_,rfl,rfl,.inr ⟨e3,rfl,rfl⟩⟩
              refine wa_ (wc_region (w_ (m_ (h:=w_ (a_ (h:=wo_nil (e_ (h:=aft_normal (wc_region (w_ (m_ (h:=w_ (a_ (h:=wo_nil (e_ (h:=?_))))))))))))))))
              )
          rotate_right 1
          focus
           intro c3
           first
           | exact dn c3
           | (have d3 := c3;try simp at d3
              have e3 : (a + b) / 2 < m := (by simp at c3;omega);obtain ⟨i0,j0,hi0,hj0,hd⟩ : ∃ i j : Nat,i = (a + b) / 2 + m - b∧j = (a + b) / 2∧((a + b) / 2 < m∧i = (a + b) / 2 + m - b∧j = (a + b) / 2∨¬ (a + b) / 2 < m∧i = a∧j = m) := ⟨_,_,rfl,rfl,.inl ⟨e3,rfl,rfl⟩⟩
              refine wa_ (wc_region (w_ (m_ (h:=w_ (m_ (h:=w_ (?_)))))))
              refine b_ (hv:=iv_sub (c:=(a + b) / 2 + m - b) (by omega) (by omega)) (h:=?_)
              refine w_ (a_ (h:=wo_nil (e_ (h:=aft_normal (wc_region (w_ (m_ (h:=w_ (a_ (h:=wo_nil (e_ (h:=?_))))))))))))
              )
          all_goals first
          | (refine aft_normal ?_
             refine wa_ (wc_region (w_ (m_ (h:=w_ (?_)))))
             refine b_ (hv:=iv_sub (c:=(a + b) / 2 + m - 1) (by omega) (by omega)) (h:=?_)
             refine w_ (a_ (h:=wo_nil (e_ (h:=aft_normal (wa_ (wc_block (?_)))))))
             refine wc_loop (l_sym a m b l.length l h4 rfl h1 h2 h3 i0 j0 hd _ (by simp [normE,hi0,hj0])) ?_
             refine blk_exit (aft_normal (wa_ (wc_region (w_ (m_ (h:=w_ (m_ (h:=w_ (?_)))))))))
             refine b_ (hv:=iv_sub (c:=(a + b) / 2 + m - symS ltC a m b l) (by omega) (by omega)) (h:=?_)
             refine w_ (a_ (h:=wo_nil (e_ (h:=aft_normal (wa_ (wa_ (wc_region (w_ (m_ (h:=w_ (m_ (h:=w_ (b_ (h:=w_ (m_ (h:=?_))))))))))))))))
             refine gw_ (h1:=?_) (h2:=?_)
             rotate_right 1
             focus
              intro c4
              first
              | exact dn c4
              | (have d4 := c4;try simp at d4
                 refine go_ (h:=go_ (h:=go_ (h:=?_)))
                 )
             rotate_right 1
             focus
              intro c4
              first
              | exact dn c4
              | (have d4 := c4;try simp at d4
                 refine g_ (h:=w_ (m_ (h:=g_ (h:=w_ (m_ (h:=g_ (h:=w_ (b_ (h:=?_)))))))))
                 )
             all_goals
              refine w_ (pk (h:=wo_nil (e_ (h:=?_))))
             all_goals first
             | (refine aft_normal ?_
                refine c_ (h1:=?_) (h2:=?_)
                rotate_right 1
                focus
                 intro c5
                 first
                 | exact dn c5
                 | (have d5 := c5;try simp at d5
                    have e5 : ¬ (symS ltC a m b l < m∧m < (a + b) / 2 + m - symS ltC a m b l) := (by first | omega | (simp at c4;omega) | (simp at c5;omega));have hcut : cutR (symS ltC a m b l) m ((a + b) / 2) l = l := (by unfold cutR;rw [if_neg e5])
                    refine wc_skip (?_)
                    )
                rotate_right 1
                focus
                 intro c5
                 first
                 | exact dn c5
                 | (have d5 := c5;try simp at d5
                    have e5 : symS ltC a m b l < m∧m < (a + b) / 2 + m - symS ltC a m b l := (by simp at c5;omega);have hlr := (rot_ok (m:=m) (m - symS ltC a m b l) ((a + b) / 2 + m - symS ltC a m b l - m) l (by omega) (by omega)).1.length_eq;have hcut : cutR (symS ltC a m b l) m ((a + b) / 2) l = rot m (m - symS ltC a m b l) ((a + b) / 2 + m - symS ltC a m b l - m) l := (by unfold cutR;rw [if_pos e5])
                    refine wc_region (w_ (m_ (h:=w_ (m_ (h:=w_ (m_ (h:=w_ (m_ (h:=w_ (m_ (h:=w_ (?_))))))))))))
                    refine cI (hc:=e_rot (symS ltC a m b l) m ((a + b) / 2 + m - symS ltC a m b l) l h4 (by omega) (by omega) (by omega)) (hal:=cts_alk hlr.symm) (h:=?_)
                    refine wo_nil (e_ (h:=?_))
                    )
                )
             all_goals first
             | (refine aft_normal ?_
                refine wa_ (wa_ (wc_region (w_ (m_ (h:=w_ (m_ (h:=w_ (b_ (h:=w_ (m_ (h:=?_)))))))))))
                refine gw_ (h1:=?_) (h2:=?_)
                rotate_right 1
                focus
                 intro c6
                 first
                 | exact dn c6
                 | (have d6 := c6;try simp at d6
                    refine go_ (h:=go_ (h:=go_ (h:=?_)))
                    )
                rotate_right 1
                focus
                 intro c6
                 first
                 | exact dn c6
                 | (have d6 := c6;try simp at d6
                    refine g_ (h:=w_ (m_ (h:=g_ (h:=w_ (m_ (h:=g_ (h:=w_ (b_ (h:=?_)))))))))
                    )
                all_goals
                 refine w_ (pk (h:=wo_nil (e_ (h:=?_))))
                all_goals first
                | (refine aft_normal ?_
                   refine c_ (h1:=?_) (h2:=?_)
                   rotate_right 1
                   focus
                    intro c7
                    first
                    | exact dn c7
                    | (have d7 := c7;try simp at d7
                       have e7 : ¬ (a < symS ltC a m b l∧symS ltC a m b l < (a + b) / 2) := (by first | omega | (simp at c6;omega) | (simp at c7;omega));have h12 : (if a < symS ltC a m b l∧symS ltC a m b l < (a + b) / 2 then symM ltC f a (symS ltC a m b l) ((a + b) / 2) (cutR (symS ltC a m b l) m ((a + b) / 2) l) else cutR (symS ltC a m b l) m ((a + b) / 2) l) = cutR (symS ltC a m b l) m ((a + b) / 2) l := if_neg e7;rw [hcut] at h12
                       refine wc_skip (?_)
                       )
                   rotate_right 1
                   focus
                    intro c7
                    first
                    | exact dn c7
                    | (have d7 := c7;try simp at d7
                       have e7 : a < symS ltC a m b l∧symS ltC a m b l < (a + b) / 2 := (by simp at c7;omega);have hls := symM_len (lt:=ltC) f a (symS ltC a m b l) ((a + b) / 2) (cutR (symS ltC a m b l) m ((a + b) / 2) l) e7.1 e7.2 (by rw [hcut];omega);have h12 : (if a < symS ltC a m b l∧symS ltC a m b l < (a + b) / 2 then symM ltC f a (symS ltC a m b l) ((a + b) / 2) (cutR (symS ltC a m b l) m ((a + b) / 2) l) else cutR (symS ltC a m b l) m ((a + b) / 2) l) = symM ltC f a (symS ltC a m b l) ((a + b) / 2) (cutR (symS ltC a m b l) m ((a + b) / 2) l) := if_pos e7;rw [hcut] at hls h12
                       refine wc_region (w_ (m_ (h:=w_ (m_ (h:=w_ (m_ (h:=w_ (m_ (h:=w_ (m_ (h:=w_ (?_))))))))))))
                       first | refine cI (hc:=ih a (symS ltC a m b l) ((a + b) / 2) (rot m (m - symS ltC a m b l) ((a + b) / 2 + m - symS ltC a m b l - m) l) (by omega) (by omega) (by omega) (by omega) (by omega)) (hal:=cts_alk (symM_len f a (symS ltC a m b l) ((a + b) / 2) (rot m (m - symS ltC a m b l) ((a + b) / 2 + m - symS ltC a m b l - m) l) (by omega) (by omega) (by omega)).symm) (h:=?_) | refine cI (hc:=ih a (symS ltC a m b l) ((a + b) / 2) l (by omega) (by omega) (by omega) (by omega) (by omega)) (hal:=cts_alk (symM_len f a (symS ltC a m b l) ((a + b) / 2) l (by omega) (by omega) (by omega)).symm) (h:=?_)
                       refine wo_nil (e_ (h:=?_))
                       )
                   )
                all_goals first
                | (refine aft_normal ?_
                   refine wa_ (wc_region (w_ (m_ (h:=w_ (m_ (h:=w_ (b_ (h:=w_ (m_ (h:=?_))))))))))
                   refine gw_ (h1:=?_) (h2:=?_)
                   rotate_right 1
                   focus
                    intro c8
                    first
                    | exact dn c8
                    | (have d8 := c8;try simp at d8
                       refine go_ (h:=go_ (h:=go_ (h:=?_)))
                       )
                   rotate_right 1
                   focus
                    intro c8
                    first
                    | exact dn c8
                    | (have d8 := c8;try simp at d8
                       refine g_ (h:=w_ (m_ (h:=g_ (h:=w_ (m_ (h:=g_ (h:=w_ (b_ (h:=?_)))))))))
                       )
                   all_goals
                    refine w_ (pk (h:=wo_nil (e_ (h:=?_))))
                   all_goals first
                   | (refine aft_normal ?_
                      refine c_ (h1:=?_) (h2:=?_)
                      rotate_right 1
                      focus
                       intro c9
                       first
                       | exact dn c9
                       | (have d9 := c9;try simp at d9
                          have e9 : ¬ ((a + b) / 2 < (a + b) / 2 + m - symS ltC a m b l∧(a + b) / 2 + m - symS ltC a m b l < b) := (by first | omega | (simp at c8;omega) | (simp at c9;omega))
                          refine wc_skip (?_)
                          )
                      rotate_right 1
                      focus
                       intro c9
                       first
                       | exact dn c9
                       | (have d9 := c9;try simp at d9
                          have e9 : (a + b) / 2 < (a + b) / 2 + m - symS ltC a m b l∧(a + b) / 2 + m - symS ltC a m b l < b := (by simp at c9;omega)
                          refine wc_region (w_ (m_ (h:=w_ (m_ (h:=w_ (m_ (h:=w_ (m_ (h:=w_ (m_ (h:=w_ (?_))))))))))))
                          first | refine cI (hc:=ih ((a + b) / 2) ((a + b) / 2 + m - symS ltC a m b l) b (symM ltC f a (symS ltC a m b l) ((a + b) / 2) (rot m (m - symS ltC a m b l) ((a + b) / 2 + m - symS ltC a m b l - m) l)) (by omega) (by omega) (by omega) (by omega) (by omega)) (hal:=cts_alk (symM_len f ((a + b) / 2) ((a + b) / 2 + m - symS ltC a m b l) b (symM ltC f a (symS ltC a m b l) ((a + b) / 2) (rot m (m - symS ltC a m b l) ((a + b) / 2 + m - symS ltC a m b l - m) l)) (by omega) (by omega) (by omega)).symm) (h:=?_) | refine cI (hc:=ih ((a + b) / 2) ((a + b) / 2 + m - symS ltC a m b l) b (symM ltC f a (symS ltC a m b l) ((a + b) / 2) l) (by omega) (by omega) (by omega) (by omega) (by omega)) (hal:=cts_alk (symM_len f ((a + b) / 2) ((a + b) / 2 + m - symS ltC a m b l) b (symM ltC f a (symS ltC a m b l) ((a + b) / 2) l) (by omega) (by omega) (by omega)).symm) (h:=?_) | refine cI (hc:=ih ((a + b) / 2) ((a + b) / 2 + m - symS ltC a m b l) b (rot m (m - symS ltC a m b l) ((a + b) / 2 + m - symS ltC a m b l - m) l) (by omega) (by omega) (by omega) (by omega) (by omega)) (hal:=cts_alk (symM_len f ((a + b) / 2) ((a + b) / 2 + m - symS ltC a m b l) b (rot m (m - symS ltC a m b l) ((a + b) / 2 + m - symS ltC a m b l - m) l) (by omega) (by omega) (by omega)).symm) (h:=?_) | refine cI (hc:=ih ((a + b) / 2) ((a + b) / 2 + m - symS ltC a m b l) b l (by omega) (by omega) (by omega) (by omega) (by omega)) (hal:=cts_alk (symM_len f ((a + b) / 2) ((a + b) / 2 + m - symS ltC a m b l) b l (by omega) (by omega) (by omega)).symm) (h:=?_)
                          refine wo_nil (e_ (h:=?_))
                          )
                      )
                   )
                )
             )
          )
       )
    all_goals (refine fin_ (hr:=res_nil) (h:=?_);(focus (first | (rw [symM_1 e1];rfl) | (simp [symM_1 e1];done) | (rw [symM_2 e1 e2];rfl) | (simp [symM_2 e1 e2];done) | (simp only [symM,if_neg e1,if_neg e2,hcut];rw [h12];first | (rw [if_pos e9] <;> first | rfl | (simp;done)) | (rw [if_neg e9] <;> first | rfl | (simp;done))))))
end Go.Proofs.Ytbcgenkegnmkhaa.Ev
namespace Go.Proofs.Ytbcgenkegnmkhaa.Ev
open Go
set_option maxRecDepth 100000
set_option linter.unusedSimpArgs false
set_option linter.unusedVariables false
set_option maxHeartbeats 2000000
theorem cmpI_neg {a b : Int} : cmpI a b < 0↔a < b := by
  unfold cmpI
  by_cases h1 : a < b
  · simp [h1]
  · by_cases h2 : b < a <;> simp [h1,h2]
theorem cmpI_nil {a b : Int} : cmpI a b = 0↔a = b := by
  unfold cmpI
  by_cases h1 : a < b
  · simp [h1];omega
  · by_cases h2 : b < a
    · simp [h1,h2];omega
    · simp [h1,h2];omega
theorem ltC_iff {x y : Ct} : ltC x y = true↔x.pl < y.pl∨x.pl = y.pl∧x.ep < y.ep := by
  simp only [ltC,byC,decide_eq_true_eq]
  split
  · rename_i h;rw [cmpI_nil] at h;simp only [decide_eq_true_eq,cmpI_neg];omega
  · rename_i h;rw [cmpI_nil] at h;simp only [decide_eq_true_eq,cmpI_neg];omega
theorem O_ltC : Ordr ltC := by
  refine ⟨fun {x y} h => ?_,fun {x y z} h1 h2 => ?_⟩
  · rw [ltC_iff] at h
    cases hc : ltC y x
    · rfl
    · rw [ltC_iff] at hc;omega
  · cases hc : ltC z x
    · rfl
    · rw [ltC_iff] at hc
      have n1 : ¬ ltC y x = true := by simp [h1]
      have n2 : ¬ ltC z y = true := by simp [h2]
      rw [ltC_iff] at n1 n2
      omega
theorem blk_t {g : Nat→List Ct→List Ct} {w n f a : Nat} {l : List Ct} (h : a + w≤n) (hf : n≤f + a) (hw : 1≤w) : blk g w n f a l = blk g w n (f - 1) (a + w) (g a l) := by
  obtain ⟨k,rfl⟩ : ∃ k,f = k + 1 := ⟨f - 1,by omega⟩
  conv => lhs;unfold blk
  rw [if_pos h];rfl
theorem blk_f {g : Nat→List Ct→List Ct} {w n f a : Nat} {l : List Ct} (h : ¬ a + w≤n) : blk g w n f a l = (a,l) := by
  cases f with
  | zero => rfl
  | succ k => unfold blk;rw [if_neg h]
theorem blk_len {g : Nat→List Ct→List Ct} {w n : Nat} (hw : 1≤w) (hg : ∀ a l,a + w≤n→l.length = n→(g a l).length = n) : ∀ (f a : Nat) (l : List Ct),n≤f + a→a≤n→l.length = n→(blk g w n f a l).1≤n∧n < (blk g w n f a l).1 + w∧(blk g w n f a l).2.length = n
  | 0,a,l,h1,h2,h3 => ⟨h2,by show n < a + w;omega,h3⟩
  | f + 1,a,l,h1,h2,h3 => by
    unfold blk
    split
    · rename_i h
      exact blk_len hw hg f (a + w) _ (by omega) h (hg a l h h3)
    · rename_i h
      exact ⟨h2,by show n < a + w;omega,h3⟩
abbrev gI : Nat→List Ct→List Ct := fun a l => ins ltC a (a + 20) l
abbrev gM (w : Nat) : Nat→List Ct→List Ct := fun a l => symM ltC (2 * w) a (a + w) (a + 2 * w) l
theorem l_st2 (N : Nat) (hN : N < 2000000) : ∀ x : Nat × Nat × (List Ct),(N≤x.1 + x.2.1∧x.2.1≤N∧x.2.2.length = N)→∀ s,normE 3 (some [0,1,2,6,7,8]) s = ⟨[(0,.ref 0 0 N),(1,.int .i64 N),(2,.clo 90 []),(6,.int .i64 20),(7,.int .i64 x.2.1),(8,.int .i64 (x.2.1 + 20 : Nat))],[(0,⟨false,true,3,cts x.2.2,0⟩)],3⟩ →
 oc.loop 122 2 s = some (.exit 0,⟨[(0,.ref 0 0 N),(1,.int .i64 N),(2,.clo 90 []),(6,.int .i64 20),(7,.int .i64 ((blk gI 20 N x.1 x.2.1 x.2.2).1 : Nat))],[(0,⟨false,true,3,cts (blk gI 20 N x.1 x.2.1 x.2.2).2,0⟩)],3⟩) := by
 refine loop_ind (σ:=Nat × Nat × (List Ct)) (fun x => x.1) _ (fun x => ⟨[(0,.ref 0 0 N),(1,.int .i64 N),(2,.clo 90 []),(6,.int .i64 20),(7,.int .i64 x.2.1),(8,.int .i64 (x.2.1 + 20 : Nat))],[(0,⟨false,true,3,cts x.2.2,0⟩)],3⟩) _ ?_
 rintro ⟨f,a,r⟩ hi ih s hs
 simp only at hi
 refine loop_s cd122 rfl rfl hs ?_
 obtain ⟨hi1,hi2,hi3⟩ := hi
 refine wa_ (wa_ (wc_region (w_ (m_ (h:=w_ (m_ (h:=w_ (b_ (h:=wo_nil (e_ (h:=aft_normal (?_))))))))))))
 refine c_ (h1:=?_) (h2:=?_)
 rotate_right 1
 focus
  intro c1
  first
  | exact dn c1
  | (
   have d1 := c1;try simp at d1
   have hab : ¬ a + 20≤N := (by simp at c1;omega)
   refine wc_exit (?_)
   )
 rotate_right 1
 focus
  intro c1
  first
  | exact dn c1
  | (
   have d1 := c1;try simp at d1
   have hab : a + 20≤N := (by simp at c1;omega);have hil := (ins_ok O_ltC (a:=a) (b:=a + 20) (l:=r) (by omega)).1.len
   refine wc_skip (?_)
   )
 all_goals first
 | refine aft_exit ?_
 | (
  refine aft_normal ?_
  refine wc_block (wa_ (wc_region (w_ (m_ (h:=w_ (m_ (h:=w_ (m_ (h:=w_ (m_ (h:=w_ (?_))))))))))))
  refine cI (hc:=e_insC a (a + 20) r (by omega) (by omega) (by omega)) (hal:=cts_alk hil.symm) (h:=?_)
  refine wo_nil (e_ (h:=aft_normal (wa_ (wc_region (w_ (m_ (h:=w_ (a_ (h:=wo_nil (e_ (h:=aft_normal (wc_region (w_ (m_ (h:=w_ (m_ (h:=w_ (?_))))))))))))))))))
  refine b_ (hv:=iv_add (c:=a + 20 + 20) (by simp) (by omega)) (h:=?_)
  refine w_ (a_ (h:=wo_nil (e_ (h:=blk_normal (?_)))))
  )
 all_goals first
 | (refine (ih ((f - 1,a + 20,ins ltC a (a + 20) r)) (⟨by simp only;omega,by simp only;omega,by simp only;omega⟩) ?_ _ ?_).trans ?_;(focus (first | omega | (simp;done) | (simp;omega)));(focus (simp [normE,tnat];done));(focus (rw [blk_t (f:=f) (a:=a) (l:=r) hab hi1 (by omega)])))
 | (apply end_leaf (ex:=(Ext.exit 0)) 3 (some [0,1,2,6,7]);(focus (simp [normE];rfl));(focus (rw [blk_f hab])))
theorem l_st9 (w N : Nat) (hN : N < 2000000) (hw : 1≤w) (hw2 : w < 4000100) : ∀ x : Nat × Nat × (List Ct),(N≤x.1 + x.2.1∧x.2.1≤N∧x.2.2.length = N)→∀ s,normE 3 (some [0,1,2,6,7,8]) s = ⟨[(0,.ref 0 0 N),(1,.int .i64 N),(2,.clo 90 []),(6,.int .i64 w),(7,.int .i64 x.2.1),(8,.int .i64 (x.2.1 + 2 * w : Nat))],[(0,⟨false,true,3,cts x.2.2,0⟩)],3⟩ →
 oc.loop 122 9 s = some (.exit 4,⟨[(0,.ref 0 0 N),(1,.int .i64 N),(2,.clo 90 []),(6,.int .i64 w),(7,.int .i64 ((blk (gM w) (2 * w) N x.1 x.2.1 x.2.2).1 : Nat))],[(0,⟨false,true,3,cts (blk (gM w) (2 * w) N x.1 x.2.1 x.2.2).2,0⟩)],3⟩) := by
 refine loop_ind (σ:=Nat × Nat × (List Ct)) (fun x => x.1) _ (fun x => ⟨[(0,.ref 0 0 N),(1,.int .i64 N),(2,.clo 90 []),(6,.int .i64 w),(7,.int .i64 x.2.1),(8,.int .i64 (x.2.1 + 2 * w : Nat))],[(0,⟨false,true,3,cts x.2.2,0⟩)],3⟩) _ ?_
 rintro ⟨f,a,r⟩ hi ih s hs
 simp only at hi
 refine loop_s cd122 rfl rfl hs ?_
 obtain ⟨hi1,hi2,hi3⟩ := hi
 refine wa_ (wa_ (wc_region (w_ (m_ (h:=w_ (m_ (h:=w_ (b_ (h:=wo_nil (e_ (h:=aft_normal (?_))))))))))))
 refine c_ (h1:=?_) (h2:=?_)
 rotate_right 1
 focus
  intro c1
  first
  | exact dn c1
  | (
   have d1 := c1;try simp at d1
   have hab : ¬ a + 2 * w≤N := (by simp at c1;omega)
   refine wc_exit (?_)
   )
 rotate_right 1
 focus
  intro c1
  first
  | exact dn c1
  | (
   have d1 := c1;try simp at d1
   have hab : a + 2 * w≤N := (by simp at c1;omega);have hil := symM_len (lt:=ltC) (2 * w) a (a + w) (a + 2 * w) r (by omega) (by omega) (by omega)
   refine wc_skip (?_)
   )
 all_goals first
 | refine aft_exit ?_
 | (
  refine aft_normal ?_
  refine wc_block (wa_ (wc_region (w_ (m_ (h:=w_ (m_ (h:=w_ (m_ (h:=w_ (m_ (h:=w_ (?_))))))))))))
  refine b_ (hv:=iv_add (c:=a + w) (by simp) (by omega)) (h:=?_)
  refine w_ (m_ (h:=w_ (m_ (h:=w_ (?_)))))
  refine cI (hc:=e_symM (2 * w) a (a + w) (a + 2 * w) r (by omega) (by omega) (by omega) (by omega) (by omega)) (hal:=cts_alk hil.symm) (h:=?_)
  refine wo_nil (e_ (h:=aft_normal (wa_ (wc_region (w_ (m_ (h:=w_ (a_ (h:=wo_nil (e_ (h:=aft_normal (wc_region (w_ (m_ (h:=w_ (m_ (h:=w_ (?_))))))))))))))))))
  refine b_ (hv:=iv_mul (c:=2 * w) (by simp) (by omega)) (h:=?_)
  refine w_ (?_)
  refine b_ (hv:=iv_add (c:=a + 2 * w + 2 * w) (by simp) (by omega)) (h:=?_)
  refine w_ (a_ (h:=wo_nil (e_ (h:=blk_normal (?_)))))
  )
 all_goals first
 | (refine (ih ((f - 1,a + 2 * w,symM ltC (2 * w) a (a + w) (a + 2 * w) r)) (⟨by simp only;omega,by simp only;omega,by simp only;omega⟩) ?_ _ ?_).trans ?_;(focus (first | omega | (simp;done) | (simp;omega)));(focus (simp [normE,tnat];done));(focus (rw [blk_t (f:=f) (a:=a) (l:=r) hab hi1 (by omega)])))
 | (apply end_leaf (ex:=(Ext.exit 4)) 3 (some [0,1,2,6,7]);(focus (simp [normE];rfl));(focus (rw [blk_f hab])))
theorem stb2_t {n f w : Nat} {l : List Ct} (h : w < n) (hf : n≤f + w) : stb2 ltC n f w l = stb2 ltC n (f - 1) (2 * w) (mrg ltC w n l) := by
  obtain ⟨k,rfl⟩ : ∃ k,f = k + 1 := ⟨f - 1,by omega⟩
  conv => lhs;unfold stb2
  rw [if_pos h];rfl
theorem stb2_f {n f w : Nat} {l : List Ct} (h : ¬ w < n) : stb2 ltC n f w l = l := by
  cases f with
  | zero => rfl
  | succ k => unfold stb2;rw [if_neg h]
theorem mrg_a {w n : Nat} {l : List Ct} (h : (blk (gM w) (2 * w) n n 0 l).1 + w < n) : mrg ltC w n l = symM ltC (2 * w) (blk (gM w) (2 * w) n n 0 l).1 ((blk (gM w) (2 * w) n n 0 l).1 + w) n (blk (gM w) (2 * w) n n 0 l).2 := by
  unfold mrg;rw [if_pos h]
theorem mrg_b {w n : Nat} {l : List Ct} (h : ¬ (blk (gM w) (2 * w) n n 0 l).1 + w < n) : mrg ltC w n l = (blk (gM w) (2 * w) n n 0 l).2 := by
  unfold mrg;rw [if_neg h]
theorem l_st7 (N : Nat) (hN : N < 2000000) : ∀ x : Nat × Nat × (List Ct),(N≤x.1 + x.2.1∧1≤x.2.1∧x.2.1 < 4000100∧x.2.2.length = N)→∀ s,normE 3 (some [0,1,2,6]) s = ⟨[(0,.ref 0 0 N),(1,.int .i64 N),(2,.clo 90 []),(6,.int .i64 x.2.1)],[(0,⟨false,true,3,cts x.2.2,0⟩)],3⟩ →
 oc.loop 122 7 s = some (.exit 2,⟨[],[(0,⟨false,true,3,cts (stb2 ltC N x.1 x.2.1 x.2.2),0⟩)],3⟩) := by
 refine loop_ind (σ:=Nat × Nat × (List Ct)) (fun x => x.1) _ (fun x => ⟨[(0,.ref 0 0 N),(1,.int .i64 N),(2,.clo 90 []),(6,.int .i64 x.2.1)],[(0,⟨false,true,3,cts x.2.2,0⟩)],3⟩) _ ?_
 rintro ⟨f,w,r⟩ hi ih s hs
 simp only at hi
 refine loop_s cd122 rfl rfl hs ?_
 obtain ⟨hi1,hi2,hi2',hi3⟩ := hi
 refine wa_ (wa_ (wc_region (w_ (m_ (h:=w_ (m_ (h:=w_ (b_ (h:=wo_nil (e_ (h:=aft_normal (?_))))))))))))
 refine c_ (h1:=?_) (h2:=?_)
 rotate_right 1
 focus
  intro c1
  first
  | exact dn c1
  | (
   have d1 := c1;try simp at d1
   have hab : ¬ w < N := (by simp at c1;omega)
   refine wc_exit (?_)
   )
 rotate_right 1
 focus
  intro c1
  first
  | exact dn c1
  | (
   have d1 := c1;try simp at d1
   have hab : w < N := (by simp at c1;omega);obtain ⟨b1,b2,b3⟩ := blk_len (g:=gM w) (w:=2 * w) (n:=N) (by omega) (fun a l ha hl => (symM_len (lt:=ltC) (2 * w) a (a + w) (a + 2 * w) l (by omega) (by omega) (by omega)).trans hl) N 0 r (by omega) (by omega) hi3
   refine wc_skip (?_)
   )
 all_goals first
 | refine aft_exit ?_
 | (
  refine aft_normal ?_
  refine wc_block (wa_ (wc_region (w_ (m_ (h:=w_ (?_))))))
  refine b_ (hv:=iv_mul (c:=2 * w) (by simp) (by omega)) (h:=?_)
  refine w_ (a_ (h:=w_ (a_ (h:=wo_nil (e_ (h:=aft_normal (wa_ (wc_block (?_)))))))))
  refine wc_loop (l_st9 w N hN hi2 hi2' (N,0,r) ⟨by simp,by simp,hi3⟩ _ (by simp [normE])) ?_
  refine blk_exit (aft_normal (wa_ (wa_ (wc_region (w_ (m_ (h:=w_ (m_ (h:=w_ (?_))))))))))
  refine b_ (hv:=iv_add (c:=(blk (gM w) (2 * w) N N 0 r).1 + w) (by simp) (by omega)) (h:=?_)
  refine w_ (a_ (h:=wo_nil (e_ (h:=aft_normal (wa_ (wc_region (w_ (m_ (h:=w_ (m_ (h:=w_ (b_ (h:=wo_nil (e_ (h:=aft_normal (?_))))))))))))))))
  refine c_ (h1:=?_) (h2:=?_)
  rotate_right 1
  focus
   intro c2
   first
   | exact dn c2
   | (
    have d2 := c2;try simp at d2
    have hcw : ¬ (blk (gM w) (2 * w) N N 0 r).1 + w < N := (by simp at c2;omega);have hml : (mrg ltC w N r).length = N := (by rw [mrg_b hcw];omega)
    refine wc_skip (?_)
    )
  rotate_right 1
  focus
   intro c2
   first
   | exact dn c2
   | (
    have d2 := c2;try simp at d2
    have hcw : (blk (gM w) (2 * w) N N 0 r).1 + w < N := (by simp at c2;omega);have hil := symM_len (lt:=ltC) (2 * w) (blk (gM w) (2 * w) N N 0 r).1 ((blk (gM w) (2 * w) N N 0 r).1 + w) N (blk (gM w) (2 * w) N N 0 r).2 (by omega) (by omega) (by omega);have hml : (mrg ltC w N r).length = N := (by rw [mrg_a hcw];omega)
    refine wc_region (w_ (m_ (h:=w_ (m_ (h:=w_ (m_ (h:=w_ (m_ (h:=w_ (m_ (h:=w_ (?_))))))))))))
    refine cI (hc:=e_symM (2 * w) (blk (gM w) (2 * w) N N 0 r).1 ((blk (gM w) (2 * w) N N 0 r).1 + w) N (blk (gM w) (2 * w) N N 0 r).2 (by omega) (by omega) (by omega) (by omega) (by omega)) (hal:=cts_alk hil.symm) (h:=?_)
    refine wo_nil (e_ (h:=?_))
    )
  all_goals first
  | (
   refine aft_normal ?_
   refine wc_region (w_ (m_ (h:=w_ (?_))))
   refine b_ (hv:=iv_mul (c:=2 * w) (by push_cast;omega) (by omega)) (h:=?_)
   refine w_ (a_ (h:=wo_nil (e_ (h:=?_))))
   )
  all_goals refine blk_normal ?_
  )
 all_goals first
 | (refine (ih ((f - 1,2 * w,mrg ltC w N r)) (⟨by simp only;omega,by simp only;omega,by simp only;omega,by simp only;omega⟩) ?_ _ ?_).trans ?_;(focus (first | omega | (simp;done) | (simp;omega)));(focus (simp [normE,tnat,mrg_a hcw];done));(focus (rw [stb2_t (f:=f) (w:=w) (l:=r) hab hi1])))
 | (refine (ih ((f - 1,2 * w,mrg ltC w N r)) (⟨by simp only;omega,by simp only;omega,by simp only;omega,by simp only;omega⟩) ?_ _ ?_).trans ?_;(focus (first | omega | (simp;done) | (simp;omega)));(focus (simp [normE,tnat,mrg_b hcw];done));(focus (rw [stb2_t (f:=f) (w:=w) (l:=r) hab hi1])))
 | (apply end_leaf (ex:=(Ext.exit 2)) 3 (some []);(focus (simp [normE];rfl));(focus (rw [stb2_f hab])))
theorem e_stbl (l : List Ct) (hN : l.length < 2000000) : oc.call 122 [.iol 3 (cts l),.int .i64 l.length,.clo 90 []] = some (.tup [],[.lst true 3 (cts (stb ltC l))]) := by
 refine fun_s rfl cd122 rfl rfl rfl (by simp;rfl) (by simp;rfl) ?_
 obtain ⟨b1,b2,b3⟩ := blk_len (g:=gI) (w:=20) (n:=l.length) (by omega) (fun a r ha hl => (ins_ok O_ltC (a:=a) (b:=a + 20) (l:=r) (by omega)).1.len.trans hl) l.length 0 l (by omega) (by omega) rfl
 have hil := (ins_ok O_ltC (a:=(blk gI 20 l.length l.length 0 l).1) (b:=l.length) (l:=(blk gI 20 l.length l.length 0 l).2) (by omega)).1.len
 refine wa_ (wc_region (w_ (a_ (h:=wo_nil (e_ (h:=aft_normal (wa_ (wc_region (w_ (m_ (h:=w_ (a_ (h:=w_ (a_ (h:=wo_nil (e_ (h:=aft_normal (?_))))))))))))))))))
 refine wa_ (wc_block (?_))
 refine wc_loop (l_st2 l.length hN (l.length,0,l) ⟨by simp,by simp,rfl⟩ _ (by simp [normE])) ?_
 refine blk_exit (aft_normal (wa_ (wc_region (w_ (m_ (h:=w_ (m_ (h:=w_ (m_ (h:=w_ (m_ (h:=w_ (?_)))))))))))))
 refine cI (hc:=e_insC (blk gI 20 l.length l.length 0 l).1 l.length (blk gI 20 l.length l.length 0 l).2 (by omega) (by omega) (by omega)) (hal:=cts_alk hil.symm) (h:=?_)
 refine wo_nil (e_ (h:=aft_normal (wc_block (?_))))
 refine wc_loop (l_st7 l.length hN (l.length,20,stb1 ltC l.length l) ⟨by simp only;omega,by simp,by simp,hil.trans b3⟩ _ (by simp [normE,stb1])) ?_
 refine blk_exit (?_)
 all_goals (refine fin_ (hr:=res_nil) (h:=?_);(focus (simp [stb])))
theorem e_stab (l : List Ct) (hN : l.length < 2000000) : oc.call 89 [.iol 3 (cts l),.clo 90 []] = some (.tup [],[.lst true 3 (cts (stb ltC l))]) := by
 refine fun_s rfl cd89 rfl rfl rfl (by simp;rfl) (by simp;rfl) ?_
 refine wc_region (w_ (m_ (h:=w_ (m_ (h:=w_ (le (h:=w_ (m_ (h:=w_ (?_))))))))))
 refine cI (hc:=e_stbl l hN) (hal:=cts_alk (stb_ok O_ltC l).1.length_eq.symm) (h:=?_)
 refine wo_nil (e_ (h:=?_))
 all_goals (refine fin_ (hr:=res_nil) (h:=?_);(focus (simp)))
def addN (x c : Ct) : Ct := ⟨x.pl,x.ep,IntKind.i64.wrap (x.n + c.n)⟩
def putC : List Ct→Ct→List Ct
  | [],c => [c]
  | x :: r,c => if ltC x c = true then x :: putC r c else if ltC c x = true then c :: x :: r else addN x c :: r
theorem wrap_ac {x a b : Int} : IntKind.i64.wrap (IntKind.i64.wrap (x + a) + b) = IntKind.i64.wrap (IntKind.i64.wrap (x + b) + a) := by
  unfold IntKind.wrap;simp [IntKind.bits,IntKind.signed];omega
theorem wrap_c {a b : Int} : IntKind.i64.wrap (a + b) = IntKind.i64.wrap (b + a) := by rw [Int.add_comm]
theorem ltC_no {x y : Ct} : ltC x y = false↔¬ (x.pl < y.pl∨x.pl = y.pl∧x.ep < y.ep) := by
  rw [← ltC_iff];simp
theorem putC_cons (x : Ct) (r : List Ct) (c : Ct) : putC (x :: r) c = if ltC x c = true then x :: putC r c else if ltC c x = true then c :: x :: r else addN x c :: r := rfl
theorem putC_comm : ∀ (l : List Ct) (a b : Ct),putC (putC l a) b = putC (putC l b) a
  | [],a,b => by
    show putC [a] b = putC [b] a
    rw [putC_cons,putC_cons]
    by_cases h1 : ltC a b = true
    · have h2 : ¬ ltC b a = true := by rw [ltC_iff] at h1 ⊢;omega
      rw [if_pos h1,if_neg h2,if_pos h1];rfl
    · by_cases h2 : ltC b a = true
      · rw [if_neg h1,if_pos h2,if_pos h2];rfl
      · rw [if_neg h1,if_neg h2,if_neg h2,if_neg h1]
        rw [ltC_iff] at h1 h2
        have e1 : a.pl = b.pl := by omega
        have e2 : a.ep = b.ep := by omega
        simp [addN,e1,e2,wrap_c]
  | x :: r,a,b => by
    have ih := putC_comm r a b
    have key : ∀ c : Ct,putC (x :: r) c = if ltC x c = true then x :: putC r c else if ltC c x = true then c :: x :: r else addN x c :: r := fun c => rfl
    have kn : ∀ (y : Ct) (q : List Ct) (c : Ct),putC (y :: q) c = if ltC y c = true then y :: putC q c else if ltC c y = true then c :: y :: q else addN y c :: q := fun y q c => rfl
    have hx : ∀ c d : Ct,(ltC (addN x c) d = true↔ltC x d = true)∧(ltC d (addN x c) = true↔ltC d x = true) := fun c d => by
      simp only [ltC_iff,addN,and_self]
    rw [key a,key b]
    by_cases a1 : ltC x a = true
    · rw [if_pos a1]
      by_cases b1 : ltC x b = true
      · rw [if_pos b1,kn,kn,if_pos b1,if_pos a1,ih]
      · rw [if_neg b1]
        by_cases b2 : ltC b x = true
        · have ba : ltC b a = true := by rw [ltC_iff] at *;omega
          rw [if_pos b2,kn,if_neg b1,if_pos b2,kn,if_pos ba,key,if_pos a1]
        · rw [if_neg b2,kn,if_neg b1,if_neg b2,kn,if_pos ((hx b a).1.2 a1)]
    · rw [if_neg a1]
      by_cases a2 : ltC a x = true
      · rw [if_pos a2]
        by_cases b1 : ltC x b = true
        · have ab : ltC a b = true := by rw [ltC_iff] at *;omega
          rw [if_pos b1,kn,if_pos ab,key,if_pos b1,kn,if_neg a1,if_pos a2]
        · rw [if_neg b1]
          by_cases b2 : ltC b x = true
          · rw [if_pos b2,kn a (x :: r) b,kn b (x :: r) a]
            by_cases ab : ltC a b = true
            · have ba : ¬ ltC b a = true := by rw [ltC_iff] at *;omega
              rw [if_pos ab,if_neg ba,if_pos ab,key,if_neg b1,if_pos b2]
            · by_cases ba : ltC b a = true
              · rw [if_neg ab,if_pos ba,if_pos ba,key,if_neg a1,if_pos a2]
              · rw [if_neg ab,if_neg ba,if_neg ba,if_neg ab]
                rw [ltC_iff] at ab ba
                have e1 : a.pl = b.pl := by omega
                have e2 : a.ep = b.ep := by omega
                simp [addN,e1,e2,wrap_c]
          · have ab : ltC a b = true := by rw [ltC_iff] at *;omega
            rw [if_neg b2,kn,if_pos ab,key,if_neg b1,if_neg b2,kn,if_neg (fun h => a1 ((hx b a).1.1 h)),if_pos ((hx b a).2.2 a2)]
      · rw [if_neg a2]
        by_cases b1 : ltC x b = true
        · rw [if_pos b1,kn,if_pos ((hx a b).1.2 b1),kn,if_neg a1,if_neg a2]
        · rw [if_neg b1]
          by_cases b2 : ltC b x = true
          · have ba : ltC b a = true := by rw [ltC_iff] at *;omega
            rw [if_pos b2,kn,if_neg (fun h => b1 ((hx a b).1.1 h)),if_pos ((hx a b).2.2 b2),kn,if_pos ba,key,if_neg a1,if_neg a2]
          · rw [if_neg b2,kn,if_neg (fun h => b1 ((hx a b).1.1 h)),if_neg (fun h => b2 ((hx a b).2.1 h)),kn,if_neg (fun h => a1 ((hx b a).1.1 h)),if_neg (fun h => a2 ((hx b a).2.1 h))]
            simp only [addN,wrap_ac]
theorem put_perm {l1 l2 : List Ct} (p : l1.Perm l2) : ∀ acc : List Ct,l1.foldl putC acc = l2.foldl putC acc := by
  induction p with
  | nil => intro acc;rfl
  | cons x _ ih => intro acc;exact ih _
  | swap x y l => intro acc;simp only [List.foldl_cons];rw [putC_comm]
  | trans _ _ ih1 ih2 => intro acc;rw [ih1,ih2]
theorem putC_last {x c : Ct} (hx : ltC c x = false) : ∀ {init : List Ct},(∀ y∈init,ltC y c = true)→putC (init ++ [x]) c = if ltC x c = true then init ++ [x,c] else init ++ [addN x c]
  | [],_ => by
    show putC [x] c = _
    rw [putC_cons]
    by_cases h : ltC x c = true
    · rw [if_pos h,if_pos h];rfl
    · rw [if_neg h,if_neg h,if_neg (by simp [hx])];rfl
  | y :: r,h => by
    rw [List.cons_append,putC_cons,if_pos (h y (List.mem_cons_self ..)),putC_last hx (fun z hz => h z (List.mem_cons_of_mem _ hz))]
    by_cases h : ltC x c = true
    · rw [if_pos h,if_pos h];rfl
    · rw [if_neg h,if_neg h];rfl
theorem runs_inv {S : List Ct} (hS : Srt ltC 0 S.length S) : ∀ i,i < S.length→∃ init x,(S.take (i + 1)).foldl putC [] = init ++ [x]∧x.pl = (nth S i).pl∧x.ep = (nth S i).ep∧∀ y∈init,ltC y (nth S i) = true
  | 0,h => by
    refine ⟨[],nth S 0,?_,rfl,rfl,fun y hy => by cases hy⟩
    rw [List.take_add_one,nth_get h];rfl
  | i + 1,h => by
    obtain ⟨init,x,e,e1,e2,hy⟩ := runs_inv hS i (by omega)
    have hle := hS i (i + 1) (by omega) (by omega) h
    rw [ltC_no] at hle
    have hxc : ltC (nth S (i + 1)) x = false := by rw [ltC_no];omega
    have hall : ∀ y∈init,ltC y (nth S (i + 1)) = true := fun y h1 => by
      have := hy y h1
      rw [ltC_iff] at this ⊢;omega
    rw [List.take_add_one,nth_get h,List.foldl_append,e]
    show ∃ init' x',putC (init ++ [x]) (nth S (i + 1)) = init' ++ [x']∧_
    rw [putC_last hxc hall]
    by_cases hc : ltC x (nth S (i + 1)) = true
    · rw [if_pos hc]
      refine ⟨init ++ [x],nth S (i + 1),by simp,rfl,rfl,fun y h1 => ?_⟩
      rcases List.mem_append.1 h1 with h1 | h1
      · exact hall y h1
      · rw [List.mem_singleton.1 h1];exact hc
    · rw [if_neg hc]
      have hc' := hc
      rw [ltC_iff] at hc'
      rw [ltC_no] at hxc
      exact ⟨init,addN x (nth S (i + 1)),rfl,by show x.pl = _;omega,by show x.ep = _;omega,hall⟩
theorem put_sorted : ∀ (l acc : List Ct),(acc ++ l).Pairwise (fun x y => ltC x y = true)→l.foldl putC acc = acc ++ l
  | [],acc,_ => by simp
  | c :: l,acc,h => by
    have hacc : ∀ y∈acc,ltC y c = true := fun y hy => (List.pairwise_append.1 h).2.2 y hy c (List.mem_cons_self ..)
    have hput : putC acc c = acc ++ [c] := by
      clear h
      induction acc with
      | nil => rfl
      | cons y r ih => rw [putC_cons,if_pos (hacc y (List.mem_cons_self ..)),ih (fun z hz => hacc z (List.mem_cons_of_mem _ hz))];rfl
    rw [List.foldl_cons,hput,put_sorted l (acc ++ [c]) (by simpa using h)]
    simp
theorem sum_eq {l m : List Ct} (h : l.Pairwise (fun x y => ltC x y = true)) : m.foldl putC l = (stb ltC (l ++ m)).foldl putC [] := by
  rw [put_perm (stb_ok O_ltC (l ++ m)).1,List.foldl_append,put_sorted l [] (by simpa using h)]
  rfl
end Go.Proofs.Ytbcgenkegnmkhaa.Ev
namespace Go.Proofs.Ytbcgenkegnmkhaa.Ev
open Go
set_option maxRecDepth 100000
set_option linter.unusedSimpArgs false
set_option linter.unusedVariables false
set_option maxHeartbeats 2000000
def ctss (t : Bool) (l : List (List Ct)) : List V := l.map fun x => .lst t (lz t 3) (cts x)
@[simp] theorem ctss_len (t : Bool) (l : List (List Ct)) : (ctss t l).length = l.length := by simp [ctss]
@[simp] theorem ctss_nil (t : Bool) : ctss t [] = [] := rfl
@[simp] theorem ctss_cons (t : Bool) (x : List Ct) (l : List (List Ct)) : ctss t (x :: l) = .lst t (lz t 3) (cts x) :: ctss t l := rfl
@[simp] theorem ctss_join (t : Bool) (l m : List (List Ct)) : ctss t l ++ ctss t m = ctss t (l ++ m) := by simp [ctss]
@[simp] theorem ctss_snocT (l : List (List Ct)) (x : List Ct) : ctss true l ++ [.lst true 3 (cts x)] = ctss true (l ++ [x]) := by simp [ctss]
@[simp] theorem ctss_snocF (l : List (List Ct)) (x : List Ct) : ctss false l ++ [.lst false 0 (cts x)] = ctss false (l ++ [x]) := by simp [ctss]
@[simp] theorem ctss_setT (l : List (List Ct)) (i : Nat) (x : List Ct) : (ctss true l).set i (.lst true 3 (cts x)) = ctss true (l.set i x) := by simp [ctss,List.map_set]
@[simp] theorem ctss_setF (l : List (List Ct)) (i : Nat) (x : List Ct) : (ctss false l).set i (.lst false 0 (cts x)) = ctss false (l.set i x) := by simp [ctss,List.map_set]
theorem ctss_get {t : Bool} {l : List (List Ct)} {i : Nat} {x : List Ct} (h : l[i]? = some x) : (ctss t l)[i]? = some (.lst t (lz t 3) (cts x)) := by simp [ctss,h]
theorem ctss_at {t : Bool} {l : List (List Ct)} {i : Nat} (h : i < l.length) : (ctss t l)[(i : Int).toNat]? = some (.lst t (lz t 3) (cts l[i])) := ctss_get (by simp [h])
theorem ctss_cut {t : Bool} {l : List (List Ct)} {i : Nat} (h : i < l.length) : ∃ x,l[i]? = some x∧l.drop i = x :: l.drop (i + 1)∧(ctss t l)[(i : Int).toNat]? = some (.lst t (lz t 3) (cts x)) :=
  ⟨l[i],by simp [h],List.drop_eq_getElem_cons h,ctss_at h⟩
@[simp] theorem ctss_take (t : Bool) (n : Nat) (l : List (List Ct)) : (ctss t l).take n = ctss t (l.take n) := by simp [ctss,List.map_take]
@[simp] theorem ctss_drop (t : Bool) (n : Nat) (l : List (List Ct)) : (ctss t l).drop n = ctss t (l.drop n) := by simp [ctss,List.map_drop]
@[simp] theorem ctss_shareL (t : Bool) (l : List (List Ct)) : V.shareL (ctss t l) = ctss false l := by
  induction l with
  | nil => rfl
  | cons x l ih => simp [V.shareL,ih,lst_share]
@[simp] theorem ctss_tidyT (l : List (List Ct)) : V.tidyL (ctss true l) = true := by
  induction l with
  | nil => rfl
  | cons x l ih => simp [V.tidyL,V.tidy,ih]
@[simp] theorem alike_ctss (t u : Bool) (a b : List (List Ct)) : V.alikeL (ctss t a) (ctss u b) = decide (a.length = b.length) := alikeL_lss (fun _ _ => rfl)
abbrev ctZ : V := .agg [.int .i64 0,.int .i64 0,.int .i64 0]
theorem grow_posC (e : List (Nat × V)) (o : List (Nat × Ob)) (k : Int) (hk : 0 < k) (hk2 : k < 2000000) : oc.call.i 121 [.emp true,.int .i64 k] ⟨e,o,33⟩ 33 = some (.ref 609 0 0,⟨e,(609,⟨false,false,3,List.replicate k.toNat ctZ,0⟩) :: o,833⟩) := by
 have h0 : IntKind.i64.wrap (0 - 0) = 0 := by decide
 have hw : IntKind.i64.wrap (k - IntKind.i64.wrap (0 - 0)) = k := by rw [h0,Int.sub_zero];exact wrap_id (by omega) (by omega)
 apply inl_s (by rw [cf_pl];rfl) cd121 rfl rfl (by simp;rfl)
 refine wa_ (wc_region (w_ (aN (h:=wo_nil (e_ (h:=aft_normal (wa_ (wa_ (wc_region (w_ (m_ (h:=w_ (b_ (h:=wo_nil (e_ (h:=aft_normal (?_)))))))))))))))))
 refine c_ (h1:=?_) (h2:=?_)
 rotate_right 1
 focus
  intro c1
  first
  | exact dn c1
  | (
   have d1 := c1;try simp at d1
   refine wc_skip (?_)
   )
 rotate_right 1
 focus
  intro c1
  first
  | exact dn c1
  | (
   have d1 := c1;try simp at d1
   exfalso;omega
   )
 all_goals first
 | (
  refine aft_normal ?_
  refine wa_ (wa_ (wc_region (w_ (m_ (h:=w_ (m_ (h:=w_ (cc (h:=w_ (m_ (h:=w_ (le (h:=w_ (b_ (h:=w_ (b_ (h:=w_ (a_ (h:=wo_nil (e_ (h:=?_)))))))))))))))))))))
  refine aft_normal (wa_ (wc_region (w_ (m_ (h:=w_ (b_ (h:=wo_nil (e_ (h:=aft_normal (?_))))))))))
  refine c_ (h1:=?_) (h2:=?_)
  rotate_right 1
  focus
   intro c2
   first
   | exact dn c2
   | (
    have d2 := c2;try simp at d2
    exfalso;rw [hw] at c2;simp at c2;omega
    )
  rotate_right 1
  focus
   intro c2
   first
   | exact dn c2
   | (
    have d2 := c2;try simp at d2
    refine wc_region (w_ (m_ (h:=w_ (m_ (h:=w_ (cc (h:=w_ (sl (h:=w_ (m_ (h:=w_ (?_))))))))))))
    simp only [hw];refine apZ (h:=?_)
    refine w_ (m_ (h:=w_ (le (h:=w_ (sl (h:=w_ (a_ (h:=wo_nil (e_ (h:=?_))))))))))
    )
  all_goals first
  | (
   refine aft_normal ?_
   refine wa_ (wc_region (w_ (m_ (h:=w_ (a_ (h:=wo_nil (e_ (h:=aft_normal (wc_ret (?_))))))))))
   )
  )
 all_goals (exact ⟨by simp,_,rfl,rfl,rfl⟩)
theorem grow_nilC (e : List (Nat × V)) (o : List (Nat × Ob)) : oc.call.i 121 [.emp true,.int .i64 0] ⟨e,o,33⟩ 33 = some (.emp true,⟨e,o,513⟩) := by
 have h0 : IntKind.i64.wrap (0 - 0) = 0 := by decide
 have hw : IntKind.i64.wrap (0 - IntKind.i64.wrap (0 - 0)) = 0 := by rw [h0];decide
 apply inl_s (by rw [cf_pl];rfl) cd121 rfl rfl (by simp;rfl)
 refine wa_ (wc_region (w_ (aN (h:=wo_nil (e_ (h:=aft_normal (wa_ (wa_ (wc_region (w_ (m_ (h:=w_ (b_ (h:=wo_nil (e_ (h:=aft_normal (?_)))))))))))))))))
 refine c_ (h1:=?_) (h2:=?_)
 rotate_right 1
 focus
  intro c1
  first
  | exact dn c1
  | (
   have d1 := c1;try simp at d1
   refine wc_skip (?_)
   )
 rotate_right 1
 focus
  intro c1
  first
  | exact dn c1
  | (
   have d1 := c1;try simp at d1
   exfalso;omega
   )
 all_goals first
 | (
  refine aft_normal ?_
  refine wa_ (wa_ (wc_region (w_ (m_ (h:=w_ (m_ (h:=w_ (cc (h:=w_ (m_ (h:=w_ (le (h:=w_ (b_ (h:=w_ (b_ (h:=w_ (a_ (h:=wo_nil (e_ (h:=?_)))))))))))))))))))))
  refine aft_normal (wa_ (wc_region (w_ (m_ (h:=w_ (b_ (h:=wo_nil (e_ (h:=aft_normal (?_))))))))))
  refine c_ (h1:=?_) (h2:=?_)
  rotate_right 1
  focus
   intro c2
   first
   | exact dn c2
   | (
    have d2 := c2;try simp at d2
    refine wc_skip (?_)
    )
  rotate_right 1
  focus
   intro c2
   first
   | exact dn c2
   | (
    have d2 := c2;try simp at d2
    exfalso;rw [hw] at c2;simp at c2
    )
  all_goals first
  | (
   refine aft_normal ?_
   refine wa_ (wc_region (w_ (m_ (h:=w_ (a_ (h:=wo_nil (e_ (h:=aft_normal (wc_ret (?_))))))))))
   )
  )
 all_goals (exact ⟨by simp,_,rfl,rfl,rfl⟩)
theorem wS_cutLC {α : Type} {f : α→Nat} {l : List α} {i : Nat} {x : α} (h : l[i]? = some x) : wS f (l.take (i + 1)) = wS f (l.take i) + f x := by
  induction l generalizing i with
  | nil => simp at h
  | cons y r ih =>
    cases i with
    | zero => simp at h;subst h;simp
    | succ i => simp at h;simp only [List.take_succ_cons,wS_cons];rw [ih h];omega
theorem wS_takeLC {α : Type} {f : α→Nat} {l : List α} {i : Nat} : wS f (l.take i)≤wS f l := by
  induction l generalizing i with
  | nil => simp
  | cons y r ih =>
    cases i with
    | zero => simp
    | succ i => have := ih (i:=i);simp only [List.take_succ_cons,wS_cons];omega
def lenSC (l : List (List Ct)) : Nat := wS List.length l
theorem lenS_cutC {l : List (List Ct)} {i : Nat} {x : List Ct} (h : l[i]? = some x) : lenSC (l.take (i + 1)) = lenSC (l.take i) + x.length := wS_cutLC h
theorem lenS_takeC {l : List (List Ct)} {i : Nat} : lenSC (l.take i)≤lenSC l := wS_takeLC
theorem lenS_flatC {l : List (List Ct)} : l.flatten.length = lenSC l := by
  induction l with
  | nil => rfl
  | cons x r ih => simp only [List.flatten_cons,List.length_append,ih,lenSC,wS_cons]
theorem flat_cutC {l : List (List Ct)} {i : Nat} {x : List Ct} (h : l[i]? = some x) : (l.take (i + 1)).flatten = (l.take i).flatten ++ x := by
  rw [List.take_add_one,h];simp
theorem l_catSzC (ls : List (List Ct)) (hl : ls.length < 2000000) (hs0 : lenSC ls < 2000000) : ∀ i : Nat,(i≤ls.length)→∀ s,normE 1 (some [0,3,9,10,11]) s = ⟨[(0,.lst false 0 (ctss false ls)),(3,.int .i64 (lenSC (ls.take i) : Nat)),(9,.lst false 0 (ctss false ls)),(10,.int .i64 ls.length),(11,.int .i64 i)],[],1⟩ →
 oc.loop 88 3 s = some (.exit 0,⟨[(0,.lst false 0 (ctss false ls)),(3,.int .i64 (lenSC ls : Nat))],[],1⟩) := by
 refine loop_ind (σ:=Nat) (fun i => ls.length - i) _ (fun i => ⟨[(0,.lst false 0 (ctss false ls)),(3,.int .i64 (lenSC (ls.take i) : Nat)),(9,.lst false 0 (ctss false ls)),(10,.int .i64 ls.length),(11,.int .i64 i)],[],1⟩) _ ?_
 intro i hi ih s hs
 refine loop_s cd88 rfl rfl hs ?_
 refine wa_ (wc_region (w_ (b_ (h:=wo_nil (e_ (h:=aft_normal (wa_ (?_))))))))
 refine c_ (h1:=?_) (h2:=?_)
 rotate_right 1
 focus
  intro c1
  first
  | exact dn c1
  | (
   have d1 := c1;try simp at d1
   refine wc_exit (?_)
   )
 rotate_right 1
 focus
  intro c1
  first
  | exact dn c1
  | (
   have d1 := c1;try simp at d1
   have hw := wrap_succ (i:=i) (by omega);obtain ⟨c,hx,e1,g1⟩ := ctss_cut (t:=false) (l:=ls) (i:=i) (by omega);have hcut := lenS_cutC hx;have hle := lenS_takeC (l:=ls) (i:=i + 1);have hws : IntKind.i64.wrap ((lenSC (ls.take i) : Nat) + (c.length : Int)) = (lenSC (ls.take (i + 1)) : Nat) := (wrap_id (by omega) (by omega)).trans (by omega)
   refine wc_skip (?_)
   )
 all_goals first
 | refine aft_exit ?_
 | (
  refine aft_normal ?_
  refine wa_ (wc_block (wa_ (wc_region (w_ (x_ (h:=w_ (l_ (h:=w_ (a_ (h:=wo_nil (e_ (h:=aft_normal (wa_ (wc_region (w_ (m_ (h:=?_)))))))))))))))))
  refine w_ (m_ (h:=w_ (le (h:=w_ (b_ (h:=w_ (a_ (h:=wo_nil (e_ (h:=aft_normal (wa_ (wc_region (w_ (m_ (h:=w_ (b_ (h:=wo_nil (e_ (h:=aft_normal (?_))))))))))))))))))))
  refine c_ (h1:=?_) (h2:=?_)
  rotate_right 1
  focus
   intro c2
   first
   | exact dn c2
   | (
    have d2 := c2;try simp at d2
    refine wc_skip (?_)
    )
  rotate_right 1
  focus
   intro c2
   first
   | exact dn c2
   | (
    have d2 := c2;try simp at d2
    exfalso;clear ih hs;omega
    )
  all_goals refine blk_normal ?_
  all_goals first
  | (
   refine aft_normal ?_
   refine wc_region (w_ (b_ (h:=w_ (m_ (h:=wo_nil (e_ (h:=?_)))))))
   )
  )
 all_goals first
 | (refine (ih (i + 1) (by omega) ?_ _ ?_).trans ?_;(focus (first | omega | (simp;done) | (simp;omega)));(focus (simp [normE,hw,hws];done));(focus (rfl)))
 | (apply end_leaf (ex:=(Ext.exit 0)) 1 (some [0,3]);(focus (simp [normE];rfl));(focus (rw [List.take_of_length_le (by omega)])))
theorem l_catC (ls : List (List Ct)) (hl : ls.length < 2000000) (hs0 : lenSC ls < 2000000) : ∀ i : Nat,(i≤ls.length)→∀ s,normE 1 (some [6,25,26,27]) s = ⟨[(6,.ref 1 0 (lenSC (ls.take i))),(25,.lst false 0 (ctss false ls)),(26,.int .i64 ls.length),(27,.int .i64 i)],[(1,⟨false,false,3,cts (ls.take i).flatten,0⟩)],2⟩ →
 oc.loop 88 11 s = some (.exit 2,⟨[(6,.ref 1 0 (lenSC ls))],[(1,⟨false,false,3,cts ls.flatten,0⟩)],2⟩) := by
 refine loop_ind (σ:=Nat) (fun i => ls.length - i) _ (fun i => ⟨[(6,.ref 1 0 (lenSC (ls.take i))),(25,.lst false 0 (ctss false ls)),(26,.int .i64 ls.length),(27,.int .i64 i)],[(1,⟨false,false,3,cts (ls.take i).flatten,0⟩)],2⟩) _ ?_
 intro i hi ih s hs
 refine loop_s cd88 rfl rfl hs ?_
 have hT := lenS_takeC (l:=ls) (i:=i)
 generalize hF : (ls.take i).flatten = F
 have hN : lenSC (ls.take i) = F.length := by rw [← hF];exact lenS_flatC.symm
 rw [hN] at hT ⊢
 refine wa_ (wc_region (w_ (b_ (h:=wo_nil (e_ (h:=aft_normal (wa_ (?_))))))))
 refine c_ (h1:=?_) (h2:=?_)
 rotate_right 1
 focus
  intro c1
  first
  | exact dn c1
  | (
   have d1 := c1;try simp at d1
   refine wc_exit (?_)
   )
 rotate_right 1
 focus
  intro c1
  first
  | exact dn c1
  | (
   have d1 := c1;try simp at d1
   have hw := wrap_succ (i:=i) (by omega);obtain ⟨c,hx,e1,g1⟩ := ctss_cut (t:=false) (l:=ls) (i:=i) (by omega);have hcut := lenS_cutC hx;rw [hN] at hcut;have hle := lenS_takeC (l:=ls) (i:=i + 1);have hfl := flat_cutC hx;rw [hF] at hfl
   refine wc_skip (?_)
   )
 all_goals first
 | refine aft_exit ?_
 | (
  refine aft_normal ?_
  refine wa_ (wc_block (wa_ (wc_region (w_ (x_ (h:=w_ (l_ (h:=w_ (a_ (h:=wo_nil (e_ (h:=aft_normal (wc_region (w_ (m_ (h:=w_ (m_ (h:=?_))))))))))))))))))
  refine w_ (ap (h:=w_ (a_ (h:=wo_nil (e_ (h:=blk_normal (aft_normal (wc_region (w_ (b_ (h:=w_ (m_ (h:=wo_nil (e_ (h:=?_)))))))))))))))
  )
 all_goals first
 | (refine (ih (i + 1) (by omega) ?_ _ ?_).trans ?_;(focus (first | omega | (simp;done) | (simp;omega)));(focus (simp [normE,hw,hcut,hfl];done));(focus (rfl)))
 | (apply end_leaf (ex:=(Ext.exit 2)) 1 (some [6]);(focus (simp [normE];rfl));(focus (rw [List.take_of_length_le (by omega)] at hF hN;subst hF;simp [hN])))
theorem cat_nilC (ls : List (List Ct)) (hl : ls.length < 2000000) (hs0 : lenSC ls < 2000000) (hne : 0 < ls.length) (L : List Ct) (hL : ls.flatten = L) : ∀ s,normE 1 (some [6,25,26,27]) s = ⟨[(6,.emp true),(25,.lst false 0 (ctss false ls)),(26,.int .i64 ls.length),(27,.int .i64 0)],[],1⟩→oc.loop 88 11 s = some (.exit 2,⟨[(6,.ref 1 0 L.length)],[(1,⟨false,false,3,cts L,0⟩)],2⟩) := by
 intro s hs
 obtain ⟨c,hx,e1,g1⟩ := ctss_cut (t:=false) (l:=ls) (i:=0) hne
 change (ctss false ls)[(0 : Int).toNat]? = _ at g1
 have hcut := lenS_cutC hx
 have hfl := flat_cutC hx
 have hle := lenS_takeC (l:=ls) (i:=0 + 1)
 have hw : IntKind.i64.wrap (0 + 1) = 1 := by decide
 have hw1 : IntKind.i64.wrap 1 = 1 := by decide
 have hcl : c.length < 2000000 := by omega
 simp [lenSC] at hcut hfl
 refine loop_s cd88 rfl rfl hs ?_
 refine wa_ (wc_region (w_ (b_ (h:=wo_nil (e_ (h:=aft_normal (wa_ (?_))))))))
 refine c_ (h1:=?_) (h2:=?_)
 rotate_right 1
 focus
  intro c1
  first
  | exact dn c1
  | (
   have d1 := c1;try simp at d1
   exfalso;rw [decide_eq_false_iff_not] at c1;omega
   )
 rotate_right 1
 focus
  intro c1
  first
  | exact dn c1
  | (
   have d1 := c1;try simp at d1
   refine wc_skip (?_)
   )
 all_goals first
 | refine aft_exit ?_
 | (
  refine aft_normal ?_
  refine wa_ (wc_block (wa_ (wc_region (w_ (x_ (h:=w_ (l_ (h:=w_ (a_ (h:=wo_nil (e_ (h:=aft_normal (wc_region (w_ (m_ (h:=w_ (m_ (h:=?_))))))))))))))))))
  refine w_ (ap (h:=w_ (a_ (h:=wo_nil (e_ (h:=blk_normal (aft_normal (wc_region (w_ (b_ (h:=w_ (m_ (h:=wo_nil (e_ (h:=?_)))))))))))))))
  )
 all_goals (refine (l_catC ls hl hs0 1 (by omega) _ ?_).trans (by rw [← lenS_flatC,hL]);(simp [normE,hw,hw1,lenSC,hcut,hfl];done))
theorem cat_posC (ls : List (List Ct)) (k : Nat) (hl : ls.length < 2000000) (hs0 : lenSC ls < 2000000) (hne : 0 < ls.length) (L : List Ct) (hL : ls.flatten = L) : ∀ s,normE 1 (some [6,25,26,27]) s = ⟨[(6,.ref 1 0 0),(25,.lst false 0 (ctss false ls)),(26,.int .i64 ls.length),(27,.int .i64 0)],[(1,⟨false,false,3,List.replicate k ctZ,0⟩)],2⟩→oc.loop 88 11 s = some (.exit 2,⟨[(6,.ref 1 0 L.length)],[(1,⟨false,false,3,cts L,0⟩)],2⟩) := by
 intro s hs
 obtain ⟨c,hx,e1,g1⟩ := ctss_cut (t:=false) (l:=ls) (i:=0) hne
 change (ctss false ls)[(0 : Int).toNat]? = _ at g1
 have hcut := lenS_cutC hx
 have hfl := flat_cutC hx
 have hle := lenS_takeC (l:=ls) (i:=0 + 1)
 have hw : IntKind.i64.wrap (0 + 1) = 1 := by decide
 have hw1 : IntKind.i64.wrap 1 = 1 := by decide
 have hcl : c.length < 2000000 := by omega
 simp [lenSC] at hcut hfl
 refine loop_s cd88 rfl rfl hs ?_
 refine wa_ (wc_region (w_ (b_ (h:=wo_nil (e_ (h:=aft_normal (wa_ (?_))))))))
 refine c_ (h1:=?_) (h2:=?_)
 rotate_right 1
 focus
  intro c1
  first
  | exact dn c1
  | (
   have d1 := c1;try simp at d1
   exfalso;rw [decide_eq_false_iff_not] at c1;omega
   )
 rotate_right 1
 focus
  intro c1
  first
  | exact dn c1
  | (
   have d1 := c1;try simp at d1
   refine wc_skip (?_)
   )
 all_goals first
 | refine aft_exit ?_
 | (
  refine aft_normal ?_
  refine wa_ (wc_block (wa_ (wc_region (w_ (x_ (h:=w_ (l_ (h:=w_ (a_ (h:=wo_nil (e_ (h:=aft_normal (wc_region (w_ (m_ (h:=w_ (m_ (h:=?_))))))))))))))))))
  refine w_ (ap (h:=w_ (a_ (h:=wo_nil (e_ (h:=blk_normal (aft_normal (wc_region (w_ (b_ (h:=w_ (m_ (h:=wo_nil (e_ (h:=?_)))))))))))))))
  )
 all_goals (refine (l_catC ls hl hs0 1 (by omega) _ ?_).trans (by rw [← lenS_flatC,hL]);(simp [normE,hw,hw1,lenSC,hcut,hfl];done))
theorem e_catC (ls : List (List Ct)) (hl : ls.length < 2000000) (hs0 : lenSC ls < 2000000) (hne : 0 < ls.length) : oc.call 88 [.lst false 0 (ctss false ls)] = some (.lst true 3 (cts ls.flatten),[]) := by
  obtain ⟨L,hL⟩ : ∃ L,ls.flatten = L := ⟨_,rfl⟩
  rw [hL]
  rcases Nat.eq_zero_or_pos (lenSC ls) with hz | hz
  · refine fun_s rfl cd88 rfl rfl rfl (by simp;rfl) (by simp;rfl) ?_
    refine wa_ (wc_region (w_ (aN (h:=wo_nil (e_ (h:=aft_normal (wa_ (wc_region (w_ (a_ (h:=wo_nil (e_ (h:=aft_normal (wa_ (wa_ (?_))))))))))))))))
    refine wc_region (w_ (m_ (h:=w_ (le (h:=w_ (m_ (h:=wo_nil (e_ (h:=aft_normal (wc_block (?_)))))))))))
    refine wc_loop (l_catSzC ls hl hs0 0 (by omega) _ (by simp [normE,lenSC])) ?_
    refine blk_exit (aft_normal (wa_ (wc_region (w_ (m_ (h:=?_))))))
    first | refine i_ (hc:=(by simp only [hz];exact grow_nilC _ _)) (h:=?_)
    refine w_ (a_ (h:=wo_nil (e_ (h:=aft_normal (wa_ (wa_ (wc_region (w_ (m_ (h:=w_ (le (h:=w_ (m_ (h:=wo_nil (e_ (h:=aft_normal (wc_block (?_))))))))))))))))))
    refine wc_loop (cat_nilC ls hl hs0 hne L hL _ (by simp [normE])) ?_
    refine blk_exit (aft_normal (wa_ (wc_region (w_ (m_ (h:=w_ (a_ (h:=wo_nil (e_ (h:=aft_normal (wc_ret (?_))))))))))))
    all_goals (refine fin_ (hr:=(res_tmp rfl res_nil)) (h:=?_);(focus (simp)))
  · refine fun_s rfl cd88 rfl rfl rfl (by simp;rfl) (by simp;rfl) ?_
    refine wa_ (wc_region (w_ (aN (h:=wo_nil (e_ (h:=aft_normal (wa_ (wc_region (w_ (a_ (h:=wo_nil (e_ (h:=aft_normal (wa_ (wa_ (?_))))))))))))))))
    refine wc_region (w_ (m_ (h:=w_ (le (h:=w_ (m_ (h:=wo_nil (e_ (h:=aft_normal (wc_block (?_)))))))))))
    refine wc_loop (l_catSzC ls hl hs0 0 (by omega) _ (by simp [normE,lenSC])) ?_
    refine blk_exit (aft_normal (wa_ (wc_region (w_ (m_ (h:=?_))))))
    first | refine i_ (hc:=grow_posC _ _ (lenSC ls : Nat) (by omega) (by omega)) (h:=?_)
    refine w_ (a_ (h:=wo_nil (e_ (h:=aft_normal (wa_ (wa_ (wc_region (w_ (m_ (h:=w_ (le (h:=w_ (m_ (h:=wo_nil (e_ (h:=aft_normal (wc_block (?_))))))))))))))))))
    refine wc_loop (cat_posC ls (lenSC ls) hl hs0 hne L hL _ (by simp [normE])) ?_
    refine blk_exit (aft_normal (wa_ (wc_region (w_ (m_ (h:=w_ (a_ (h:=wo_nil (e_ (h:=aft_normal (wc_ret (?_))))))))))))
    all_goals (refine fin_ (hr:=(res_tmp rfl res_nil)) (h:=?_);(focus (simp)))
section
variable {id base : Nat} {e : List (Nat × V)} {o : List (Nat × Ob)} {n : Nat} {t : TypeId} {K : V→List (Nat × Ob)→Prop}
theorem caT {args : Array Operand} {ts : Array TypeId} {fo : Operand} {f g : FuncId} {q m sz : Nat} {ys : List V} {ob : Ob} {o1 : List (Nat × Ob)} {id' : Nat} (hx : opsV e args.toList = some [.ref q 0 m,.clo g []] := by exact rfl) (hf : opV e fo = some (.clo f []) := by exact rfl) (hB : cf.inB f = false := by (rw [cf_in];rfl)) (hmd : cf.md f = [.take] := by (rw [cf_md];rfl)) (ho : geta o q = some ob := by exact rfl) (hb : ob.bx = false := by rfl) (hfx : ob.fx = false := by rfl) (hm : m = ob.xs.length := by first | rfl | simp) (hd : dela o q = o1 := by (simp;rfl))
    (hc : oc.call f [.lst true ob.sz ob.xs,.clo g []] = some (.lst true sz ys,[])) (hid : id = id' := by ((try simp);rfl)) (h : K (.ref id' 0 ys.length) ((id',⟨false,false,sz,ys,0⟩) :: o1)) : opK oc.call cf id base e o n t (.call ⟨.value fo,args,ts⟩) K := by
  subst hd hm hid
  refine ⟨_,_,?_,h⟩
  have hg : St.give ⟨e,o,n⟩ q 0 ob.xs.length = some (ob.sz,ob.xs,⟨e,dela o q,n⟩) := by
    simp only [St.give,ho,hb,hfx,Nat.zero_add,Nat.le_refl,and_self,if_true,List.drop_zero,List.take_length]
  have hz : V.fz (.ref q 0 ob.xs.length) ⟨e,o,n⟩ = some (.lst true ob.sz ob.xs,⟨e,dela o q,n⟩) := by
    simp only [V.fz,hg,mp_some]
  have hs : V.snapA ⟨e,dela o q,n⟩ (.clo g []) = some (.clo g []) := rfl
  simp only [opE,hx,hf,V.capsOk,if_true,hB,Bool.false_eq_true,if_false,List.append_nil,callV,hmd,lendV,lendOne,List.headD_cons,List.tail_cons,List.headD_nil,List.tail_nil,hz,V.argOk,V.isTup,snapsV,hs,mp_some,hc,plainM,V.mention,V.mentionL,List.isEmpty_nil,true_or,V.thaw,true_and,backs,List.nil_append,List.singleton_append]
  rw [if_pos (by omega)]
end
end Go.Proofs.Ytbcgenkegnmkhaa.Ev
namespace Go.Proofs.Ytbcgenkegnmkhaa.Ev
open Go
set_option maxRecDepth 100000
set_option linter.unusedSimpArgs false
set_option linter.unusedVariables false
set_option maxHeartbeats 2000000
theorem cts_getC {l : List Ct} {i : Nat} {x : Ct} (h : l[i]? = some x) : (cts l)[i]? = some x.v := by simp [cts,h]
def idxUC (p : Ct→Bool) (i : Nat) : List (Ct)→Int
  | [] => -1
  | x :: r => if p x = true then i else idxUC p (i + 1) r
theorem idxU_anyC {p : Ct→Bool} : ∀ {l : List (Ct)} {i : Nat},decide (0≤idxUC p i l) = l.any p
  | [],i => by simp [idxUC]
  | x :: r,i => by
    unfold idxUC
    by_cases h : p x = true
    · simp [h]
    · simp only [if_neg h,List.any_cons,idxU_anyC (l:=r) (i:=i + 1)];simp [h]
theorem l_ix_UnionsC (l : List (Ct))  (p : Ct→Bool) (hl : l.length < 2000000) (hc : ∀ x∈l,oc.call 92 [x.v] = some (.bool (p x),[])) : ∀ i : Nat,i≤l.length→∀ s,normE 2 (some [0,1,7,8]) s = ⟨[(0,.lst false 0 (cts l)),(1,.clo 92 []),(7,.int .i64 l.length),(8,.int .i64 i)],[],2⟩ →
 oc.loop 125 2 s = some (if 0≤idxUC p i (l.drop i) then (.ret,⟨[(4,.int .i64 (idxUC p i (l.drop i)))],[],2⟩) else (.exit 0,⟨[],[],2⟩)) := by
 refine loop_ind (fun i => l.length - i) _ (fun i => ⟨[(0,.lst false 0 (cts l)),(1,.clo 92 []),(7,.int .i64 l.length),(8,.int .i64 i)],[],2⟩) _ ?_
 intro i hi ih s hs
 refine loop_s cd125 rfl rfl hs ?_
 refine wa_ (wc_region (w_ (b_ (h:=wo_nil (e_ (h:=aft_normal (wa_ (?_))))))))
 refine c_ (h1:=?_) (h2:=?_)
 rotate_right 1
 focus
  intro c1
  first
  | exact dn c1
  | (
   have d1 := c1;try simp at d1
   refine wc_exit (?_)
   )
 rotate_right 1
 focus
  intro c1
  first
  | exact dn c1
  | (
   have d1 := c1;try simp at d1
   have hw := wrap_succ (i:=i) (by omega);obtain ⟨x,hx,e1,g1⟩ := cts_cut (l:=l) (i:=i) (by omega);have hq := hc x (List.mem_of_getElem? hx)
   refine wc_skip (?_)
   )
 all_goals first
 | refine aft_exit ?_
 | (
  refine aft_normal ?_
  refine wa_ (wc_block (wa_ (wc_region (w_ (m_ (h:=w_ (a_ (h:=wo_nil (e_ (h:=aft_normal (wa_ (wc_region (w_ (m_ (h:=w_ (m_ (h:=?_)))))))))))))))))
  refine w_ (m_ (h:=w_ (x_ (h:=w_ (l_ (h:=w_ (?_)))))))
  refine k_callS rfl rfl (by rw [cf_in];rfl) rfl (by rw [cf_md];rfl) (by simp [cf_md,mdT];rfl) (by first | rfl | simp [*]) hq rfl (by simp;rfl) (by simp [cf_md,mdT]) (by simp;rfl) (by simp;rfl) ?_
  refine wo_nil (e_ (h:=aft_normal (?_)))
  refine c_ (h1:=?_) (h2:=?_)
  rotate_right 1
  focus
   intro c2
   first
   | exact dn c2
   | (
    have d2 := c2;try simp at d2
    refine wc_skip (?_)
    )
  rotate_right 1
  focus
   intro c2
   first
   | exact dn c2
   | (
    have d2 := c2;try simp at d2
    refine wa_ (wc_region (w_ (m_ (h:=w_ (a_ (h:=wo_nil (e_ (h:=aft_normal (wc_ret (?_))))))))))
    )
  all_goals first | refine blk_normal ?_ | refine blk_ret ?_
  all_goals first
  | refine aft_ret ?_
  | (
   refine aft_normal ?_
   refine wc_region (w_ (b_ (h:=w_ (m_ (h:=wo_nil (e_ (h:=?_)))))))
   )
  )
 all_goals first
 | (refine (ih (i + 1) (by omega) ?_ _ ?_).trans ?_;(focus (first | omega | (simp;done) | (simp;omega)));(focus (simp [normE,hw];done));(focus (rw [e1];simp only [idxUC,if_neg (show ¬ p x = true by simp [d2])])))
 | (apply end_leaf (ex:=Ext.ret) 2 (some [4]);(focus (simp [normE];rfl));(focus (rw [e1];simp [idxUC,d2])))
 | (apply end_leaf (ex:=(Ext.exit 0)) 2 (some [4]);(focus (simp [normE];rfl));(focus (rw [List.drop_eq_nil_of_le (by omega)];simp [idxUC])))
theorem e_ix_UnionsC (l : List (Ct))  (p : Ct→Bool) (hl : l.length < 2000000) (hc : ∀ x∈l,oc.call 92 [x.v] = some (.bool (p x),[])) : oc.call 125 [.lst false 0 (cts l),.clo 92 []] = some (.int .i64 (if 0≤idxUC p 0 l then idxUC p 0 l else -1),[]) := by
 refine fun_s rfl cd125 rfl rfl rfl (by simp;rfl) (by simp;rfl) ?_
 refine wa_ (wc_region (w_ (a_ (h:=wo_nil (e_ (h:=aft_normal (wa_ (wa_ (wc_region (w_ (m_ (h:=w_ (le (h:=w_ (m_ (h:=wo_nil (e_ (h:=?_))))))))))))))))))
 refine aft_normal (wc_block (?_))
 refine wc_loopI (l_ix_UnionsC l  p hl hc 0 (by omega) _ (by simp [normE])) ?_ ?_
 rotate_right 1
 focus
  intro c1
  skip
 rotate_right 1
 focus
  intro c1
  skip
 all_goals first | refine blk_ret ?_ | refine blk_exit ?_
 all_goals first
 | refine aft_ret ?_
 | (
  refine aft_normal ?_
  refine wa_ (wc_region (w_ (a_ (h:=wo_nil (e_ (h:=aft_normal (wc_ret (?_))))))))
  )
 all_goals (refine fin_ (hr:=(res_tmp rfl res_nil)) (h:=?_);(focus (clear hc;first | (simp_all;done) | (simp_all <;> omega))))
theorem e_rf1C (d : Ct) : oc.call 92 [d.v] = some (.bool (decide (d.n = 0)),[]) := by
 refine fun_s rfl cd92 rfl rfl rfl (by simp;rfl) (by simp;rfl) ?_
 refine wa_ (wc_region (w_ (bx (h:=w_ (a_ (h:=wo_nil (e_ (h:=aft_normal (wa_ (wc_region (w_ (f_ (h:=w_ (l_ (h:=w_ (bE (h:=w_ (a_ (h:=?_)))))))))))))))))))
 refine wo_nil (e_ (h:=aft_normal (wc_ret (?_))))
 all_goals (refine fin_ (hr:=(res_tmp rfl res_nil)) (h:=?_);(focus (simp)))
def isUC (d : Ct) : Bool := decide (¬ d.n = 0)
def notUC (d : Ct) : Bool := decide (d.n = 0)
theorem idxU_negC : ∀ {l : List Ct} {i : Nat},¬ 0≤idxUC notUC i l→l.filter isUC = l
  | [],_,_ => rfl
  | x :: r,i,h => by
    unfold idxUC at h
    by_cases hx : notUC x = true
    · rw [if_pos hx] at h;omega
    · rw [if_neg hx] at h
      have h4 : isUC x = true := by simp [notUC] at hx;simp [isUC,hx]
      rw [List.filter_cons,if_pos h4,idxU_negC h]
theorem idxU_posC : ∀ {l : List Ct} {i : Nat},0≤idxUC notUC i l→∃ k : Nat,idxUC notUC i l = ((i + k : Nat) : Int)∧k < l.length∧(l.take k).filter isUC = l.take k∧(l.drop k).filter isUC = (l.drop (k + 1)).filter isUC
  | [],i,h => by simp [idxUC] at h
  | x :: r,i,h => by
    unfold idxUC at h ⊢
    by_cases hx : notUC x = true
    · rw [if_pos hx]
      have h4 : ¬ isUC x = true := by simp [notUC] at hx;simp [isUC,hx]
      exact ⟨0,by simp,by simp,rfl,by simp [h4]⟩
    · rw [if_neg hx] at h ⊢
      obtain ⟨k,e1,e2,e3,e4⟩ := idxU_posC h
      have h4 : isUC x = true := by simp [notUC] at hx;simp [isUC,hx]
      exact ⟨k + 1,by rw [e1];congr 1;omega,by simp;omega,by rw [List.take_succ_cons,List.filter_cons,if_pos h4,e3],by simpa using e4⟩
def delFC : List Ct→Nat→List Ct→Nat × List Ct
  | [],i,r => (i,r)
  | d :: t,i,r => if isUC d = true then delFC t (i + 1) (r.set i d) else delFC t i r
theorem delF_isC : ∀ {t : List Ct} {i : Nat} {r : List Ct},i + t.length < r.length→(delFC t i r).2.length = r.length∧(delFC t i r).1 < r.length∧(delFC t i r).2.take (delFC t i r).1 = r.take i ++ t.filter isUC
  | [],i,r,h => by simp [delFC] at *;exact h
  | d :: t,i,r,h => by
    simp only [List.length_cons] at h
    unfold delFC
    by_cases hd : isUC d = true
    · rw [if_pos hd]
      obtain ⟨h1,h2,h3⟩ := delF_isC (t:=t) (i:=i + 1) (r:=r.set i d) (by simp;omega)
      simp only [List.length_set] at h1 h2
      refine ⟨h1,h2,?_⟩
      rw [h3,List.filter_cons,if_pos hd]
      have : (r.set i d).take (i + 1) = r.take i ++ [d] := by
        rw [List.take_add_one,List.getElem?_set_self (by omega),List.take_set_of_le (by omega)];rfl
      rw [this];simp
    · rw [if_neg hd]
      obtain ⟨h1,h2,h3⟩ := delF_isC (t:=t) (i:=i) (r:=r) (by omega)
      exact ⟨h1,h2,by rw [h3,List.filter_cons,if_neg hd]⟩
theorem drop_succ_eqC {α : Type} {r l : List α} {j : Nat} (h : r.drop j = l.drop j) : r.drop (j + 1) = l.drop (j + 1) := by
  rw [← List.drop_drop,h,List.drop_drop]
theorem l_delC (l : List Ct) (N : Nat) (hN : l.length = N) (hl : N < 2000000) : ∀ x : Nat × Nat × (List Ct),(x.1 < x.2.1∧x.2.1≤N∧x.2.2.length = N∧x.2.2.drop x.2.1 = l.drop x.2.1)→∀ s,normE 2 (some [0,1,5,6]) s = ⟨[(0,.ref 0 0 N),(1,.clo 92 []),(5,.int .i64 x.1),(6,.int .i64 x.2.1)],[(0,⟨false,false,3,cts x.2.2,0⟩)],2⟩ →
 oc.loop 91 5 s = some (.exit 0,⟨[(0,.ref 0 0 N),(5,.int .i64 ((delFC (l.drop x.2.1) x.1 x.2.2).1 : Nat))],[(0,⟨false,false,3,cts (delFC (l.drop x.2.1) x.1 x.2.2).2,0⟩)],2⟩) := by
 refine loop_ind (σ:=Nat × Nat × (List Ct)) (fun x => N - x.2.1) _ (fun x => ⟨[(0,.ref 0 0 N),(1,.clo 92 []),(5,.int .i64 x.1),(6,.int .i64 x.2.1)],[(0,⟨false,false,3,cts x.2.2,0⟩)],2⟩) _ ?_
 rintro ⟨i,j,r⟩ hi ih s hs
 simp only at hi
 refine loop_s cd91 rfl rfl hs ?_
 obtain ⟨hi1,hi2,hi3,hi4⟩ := hi
 refine wa_ (wa_ (wc_region (w_ (m_ (h:=w_ (m_ (h:=w_ (le (h:=w_ (b_ (h:=wo_nil (e_ (h:=aft_normal (?_))))))))))))))
 refine c_ (h1:=?_) (h2:=?_)
 rotate_right 1
 focus
  intro c1
  first
  | exact dn c1
  | (
   have d1 := c1;try simp at d1
   refine wc_exit (?_)
   )
 rotate_right 1
 focus
  intro c1
  first
  | exact dn c1
  | (
   have d1 := c1;try simp at d1
   have hw := wrap_succ (i:=j) (by omega);have hwi := wrap_succ (i:=i) (by omega);obtain ⟨d,hx,e1,_⟩ := cts_cut (l:=l) (i:=j) (by omega);have hy : r[j]? = some d := (by have := congrArg (fun q => q[0]?) hi4;simpa [hx] using this);have g2 : (cts r)[j]? = some (d.v) := cts_getC hy;obtain ⟨y,hy2⟩ : ∃ y,r[i]? = some y := ⟨r[i]'(by omega),by simp⟩;have g3 : (cts r)[i]? = some (y.v) := cts_getC hy2;have e2 := drop_succ_eqC hi4
   refine wc_skip (?_)
   )
 all_goals first
 | refine aft_exit ?_
 | (
  refine aft_normal ?_
  refine wa_ (wc_block (wa_ (wc_region (w_ (m_ (h:=w_ (m_ (h:=w_ (x_ (h:=w_ (l_ (h:=w_ (al (h:=w0 (s_ (h:=wo_nil (e_ (h:=aft_normal (?_)))))))))))))))))))
  refine wa_ (wc_region (w_ (m_ (h:=w_ (l_ (h:=w_ (ca (hc:=e_rf1C d) (h:=w_ (u_ (h:=wo_nil (e_ (h:=aft_normal (?_)))))))))))))
  refine c_ (h1:=?_) (h2:=?_)
  rotate_right 1
  focus
   intro c2
   first
   | exact dn c2
   | (
    have d2 := c2;try simp at d2
    refine wc_skip (?_)
    )
  rotate_right 1
  focus
   intro c2
   first
   | exact dn c2
   | (
    have d2 := c2;try simp at d2
    refine wa_ (wc_region (w_ (m_ (h:=w_ (m_ (h:=w_ (l_ (h:=w_ (x_ (h:=w0 (s_ (h:=wo_nil (e_ (h:=aft_normal (wc_region (w_ (m_ (h:=w_ (b_ (h:=?_))))))))))))))))))))
    refine w_ (a_ (h:=wo_nil (e_ (h:=?_))))
    )
  all_goals refine blk_normal ?_
  all_goals first
  | (
   refine aft_normal ?_
   refine wc_region (w_ (m_ (h:=w_ (b_ (h:=w_ (a_ (h:=wo_nil (e_ (h:=?_)))))))))
   )
  )
 all_goals first
 | (refine (ih ((i + 1,j + 1,r.set i d)) (⟨by simp;omega,by simp;omega,by simpa using hi3,by simp only;rw [List.drop_set_of_lt (by omega)];exact e2⟩) ?_ _ ?_).trans ?_;(focus (first | omega | (simp;done) | (simp;omega)));(focus (simp [normE,hw,hwi,cts_set];done));(focus (rw [e1,delFC,if_pos (by simpa [isUC] using d2)])))
 | (refine (ih ((i,j + 1,r)) (⟨by simp;omega,by simp;omega,by simpa using hi3,by simp only;exact e2⟩) ?_ _ ?_).trans ?_;(focus (first | omega | (simp;done) | (simp;omega)));(focus (simp [normE,hw];done));(focus (rw [e1,delFC,if_neg (by simpa [isUC] using d2)])))
 | (apply end_leaf (ex:=(Ext.exit 0)) 2 (some [0,5]);(focus (simp [normE];rfl));(focus (dsimp only;rw [List.drop_eq_nil_of_le (by omega)];simp [delFC])))
theorem cut_tailC {e : List (Nat × V)} {o : List (Nat × Ob)} {n N I : Nat} {ob : Ob} {k : Nat} {a : Int} (ha : a = (I : Int)) (hI : I < N) (ho : geta o 0 = some ob) (hs : ob.sz = k) : cutV ⟨e,o,n⟩ k (.ref 0 0 N) a (N : Int) = some (.ref 0 I (N - I)) := by
  subst ha
  unfold cutV
  by_cases h : (I : Int) = 0
  · have : I = 0 := by omega
    subst this
    simp
  · simp only [if_neg h,if_neg (show ¬ (I : Int) = (N : Int) by omega),ho,hs,if_true]
    simp
theorem e_delUC (l : List Ct) (hl : l.length < 2000000) : oc.call 91 [.lst true 3 (cts l),.clo 92 []] = some (.lst true 3 (cts (l.filter isUC)),[]) := by
  have hix := e_ix_UnionsC l notUC hl (fun x _ => by simpa [notUC] using e_rf1C x)
  by_cases hp : 0≤idxUC notUC 0 l
  · obtain ⟨k,e1,e2,e3,e4⟩ := idxU_posC hp
    rw [if_pos hp,e1] at hix
    simp only [Nat.zero_add] at hix
    obtain ⟨D1,D2,D3⟩ := delF_isC (t:=l.drop (k + 1)) (i:=k) (r:=l) (by simp;omega)
    have hfilt : l.filter isUC = l.take k ++ (l.drop (k + 1)).filter isUC := by
      conv => lhs;rw [← List.take_append_drop k l]
      rw [List.filter_append,e3,e4]
    rw [← hfilt] at D3
    obtain ⟨I,R,hD⟩ : ∃ I R,delFC (l.drop (k + 1)) k l = (I,R) := ⟨_,_,rfl⟩
    rw [hD] at D1 D2 D3
    simp only at D1 D2 D3
    obtain ⟨F,hF⟩ : ∃ F,l.filter isUC = F := ⟨_,rfl⟩
    rw [hF] at D3 ⊢
    have hFl : F.length = I := by rw [← D3,List.length_take];omega
    subst hFl
    have hw : IntKind.i64.wrap ((k : Int) + 1) = ((k + 1 : Nat) : Int) := wrap_succ (by omega)
    have hdel := l_delC l l.length rfl hl (k,k + 1,l) ⟨by simp,by simp;omega,rfl,rfl⟩
    simp only [hD] at hdel
    refine fun_s rfl cd91 rfl rfl rfl (by simp;rfl) (by simp;rfl) ?_
    refine wa_ (wc_region (w_ (aN (h:=wo_nil (e_ (h:=aft_normal (wa_ (wc_region (w_ (m_ (h:=w_ (m_ (h:=w_ (ca (hc:=hix) (h:=w_ (a_ (h:=wo_nil (e_ (h:=?_)))))))))))))))))))
    refine aft_normal (wa_ (wa_ (wc_region (w_ (m_ (h:=w_ (bE (h:=wo_nil (e_ (h:=aft_normal (?_)))))))))))
    refine c_ (h1:=?_) (h2:=?_)
    rotate_right 1
    focus
     intro c1
     first
     | exact dn c1
     | (have d1 := c1;try simp at d1
        refine wc_skip (?_)
        )
    rotate_right 1
    focus
     intro c1
     first
     | exact dn c1
     | (have d1 := c1;try simp at d1
        exfalso;simp at c1;omega
        )
    all_goals first
    | refine aft_ret ?_
    | (refine aft_normal ?_
       refine wa_ (wa_ (wc_region (w_ (m_ (h:=w_ (b_ (h:=w_ (a_ (h:=wo_nil (e_ (h:=aft_normal (wc_block (?_)))))))))))))
       refine wc_loop (hdel _ (by simp [normE,hw])) ?_
       refine blk_exit (aft_normal (wa_ (wc_region (w_ (m_ (h:=w_ (m_ (h:=w_ (?_)))))))))
       refine sl (v:=.ref 0 F.length (l.length - F.length)) (hv:=cut_tailC rfl (by omega) rfl rfl) (h:=?_)
       refine w0 (?_)
       refine cl (ws:=cts F) (hw:=by simp [D3]) (h:=?_)
       refine wo_nil (e_ (h:=aft_normal (wa_ (wc_region (w_ (m_ (h:=w_ (m_ (h:=w_ (sl (h:=w_ (a_ (h:=wo_nil (e_ (h:=aft_normal (wc_ret (?_)))))))))))))))))
       )
    all_goals (refine fin_ (hr:=(res_tmp rfl res_nil)) (h:=?_);(focus (simp)))
  · have hfil := idxU_negC hp
    rw [if_neg hp] at hix
    rw [hfil]
    refine fun_s rfl cd91 rfl rfl rfl (by simp;rfl) (by simp;rfl) ?_
    refine wa_ (wc_region (w_ (aN (h:=wo_nil (e_ (h:=aft_normal (wa_ (wc_region (w_ (m_ (h:=w_ (m_ (h:=w_ (ca (hc:=hix) (h:=w_ (a_ (h:=wo_nil (e_ (h:=?_)))))))))))))))))))
    refine aft_normal (wa_ (wa_ (wc_region (w_ (m_ (h:=w_ (bE (h:=wo_nil (e_ (h:=aft_normal (?_)))))))))))
    refine c_ (h1:=?_) (h2:=?_)
    rotate_right 1
    focus
     intro c1
     first
     | exact dn c1
     | (have d1 := c1;try simp at d1
        exfalso;simp at c1
        )
    rotate_right 1
    focus
     intro c1
     first
     | exact dn c1
     | (have d1 := c1;try simp at d1
        refine wa_ (wc_region (w_ (m_ (h:=w_ (a_ (h:=wo_nil (e_ (h:=aft_normal (wc_ret (?_))))))))))
        )
    all_goals first
    | refine aft_ret ?_
    | (refine aft_normal ?_
       refine wa_ (wa_ (wc_region (w_ (m_ (h:=w_ (b_ (h:=w_ (a_ (h:=wo_nil (e_ (h:=aft_normal (wc_block (?_)))))))))))))
       refine wc_loop (hix) ?_
       refine blk_exit (aft_normal (wa_ (wc_region (w_ (m_ (h:=w_ (m_ (h:=w_ (sl (h:=w0 (cl (h:=wo_nil (e_ (h:=aft_normal (wa_ (wc_region (?_)))))))))))))))))
       refine w_ (m_ (h:=w_ (m_ (h:=w_ (sl (h:=w_ (a_ (h:=wo_nil (e_ (h:=aft_normal (wc_ret (?_))))))))))))
       )
    all_goals (refine fin_ (hr:=(res_tmp rfl res_nil)) (h:=?_);(focus (simp)))
theorem run_new {S : List Ct} (hS : Srt ltC 0 S.length S) {i : Nat} (h : i < S.length) (hc : i = 0∨byC (nth S (i - 1)) (nth S i) ≠ 0) (hn : IntKind.i64.wrap (0 + (nth S i).n) = (nth S i).n) :
    (S.take (i + 1)).foldl putC [] = (S.take i).foldl putC [] ++ [⟨(nth S i).pl,(nth S i).ep,IntKind.i64.wrap (0 + (nth S i).n)⟩] := by
  have hst : S.take (i + 1) = S.take i ++ [nth S i] := by rw [List.take_add_one,nth_get h];rfl
  rw [hst,List.foldl_append,hn]
  rcases Nat.eq_zero_or_pos i with rfl | hi
  · rfl
  · obtain ⟨init,x,e,e1,e2,hy⟩ := runs_inv hS (i - 1) (by omega)
    rw [show i - 1 + 1 = i by omega] at e
    have hle := hS (i - 1) i (by omega) (by omega) h
    rw [ltC_no] at hle
    have hb : byC (nth S (i - 1)) (nth S i) ≠ 0 := by rcases hc with h | h;· omega
                                                      · exact h
    have hlt : ltC (nth S (i - 1)) (nth S i) = true := by
      rw [ltC_iff]
      unfold byC at hb
      split at hb
      · rename_i h0;rw [cmpI_nil] at h0;have : ¬ (nth S (i - 1)).ep = (nth S i).ep := fun e => hb (cmpI_nil.2 e);omega
      · rename_i h0;rw [cmpI_nil] at h0;omega
    rw [e]
    show putC (init ++ [x]) (nth S i) = _
    rw [ltC_iff] at hlt
    rw [putC_last (by rw [ltC_no];omega) (fun y h1 => by have := hy y h1;rw [ltC_iff] at this ⊢;omega),if_pos (by rw [ltC_iff];omega)]
    simp
theorem run_old {S : List Ct} (hS : Srt ltC 0 S.length S) {i : Nat} (h : i < S.length) (hi : 0 < i) (hc : byC (nth S (i - 1)) (nth S i) = 0) :
    ∃ init x,(S.take i).foldl putC [] = init ++ [x]∧(S.take (i + 1)).foldl putC [] = init ++ [⟨x.pl,x.ep,IntKind.i64.wrap (x.n + (nth S i).n)⟩] := by
  have hst : S.take (i + 1) = S.take i ++ [nth S i] := by rw [List.take_add_one,nth_get h];rfl
  obtain ⟨init,x,e,e1,e2,hy⟩ := runs_inv hS (i - 1) (by omega)
  rw [show i - 1 + 1 = i by omega] at e
  have hk : (nth S (i - 1)).pl = (nth S i).pl∧(nth S (i - 1)).ep = (nth S i).ep := by
    unfold byC at hc
    split at hc
    · rename_i h0;rw [cmpI_nil] at h0 hc;exact ⟨h0,hc⟩
    · rename_i h0;exact absurd hc h0
  refine ⟨init,x,e,?_⟩
  rw [hst,List.foldl_append,e]
  show putC (init ++ [x]) (nth S i) = _
  rw [putC_last (by rw [ltC_no];omega) (fun y h1 => by have := hy y h1;rw [ltC_iff] at this ⊢;omega),if_neg (by rw [ltC_iff];omega)]
  rfl
theorem fold_len {S : List Ct} : ∀ {acc : List Ct},(S.foldl putC acc).length≤acc.length + S.length := by
  have put1 : ∀ (l : List Ct) (c : Ct),(putC l c).length≤l.length + 1 := by
    intro l c
    induction l with
    | nil => simp [putC]
    | cons x r ih =>
      rw [putC_cons]
      split
      · simpa using ih
      · split <;> simp
  induction S with
  | nil => intro acc;simp
  | cons c l ih =>
    intro acc
    have h1 := ih (acc:=putC acc c)
    have h2 := put1 acc c
    simp only [List.foldl_cons,List.length_cons] at *
    omega
theorem l_runs (S : List Ct) (hS : Srt ltC 0 S.length S) (hl : S.length < 2000000) (hn : ∀ i,i < S.length→IntKind.i64.wrap (0 + (nth S i).n) = (nth S i).n) : ∀ x : Nat × (List Ct),(x.1≤S.length∧(S.take x.1).foldl putC [] = x.2)→∀ s,normE 2 (some [6,7,17,18,19]) s = ⟨[(6,.ref 2 0 S.length),(7,.ref 3 0 x.2.length),(17,.ref 2 0 S.length),(18,.int .i64 S.length),(19,.int .i64 x.1)],[(2,⟨false,false,3,cts S,0⟩),(3,⟨false,false,3,cts x.2,0⟩)],4⟩ →
 oc.loop 43 4 s = some (.exit 0,⟨[(7,.ref 2 0 (S.foldl putC []).length)],[(2,⟨false,false,3,cts (S.foldl putC []),0⟩)],3⟩) := by
 refine loop_ind (σ:=Nat × (List Ct)) (fun x => S.length - x.1) _ (fun x => ⟨[(6,.ref 2 0 S.length),(7,.ref 3 0 x.2.length),(17,.ref 2 0 S.length),(18,.int .i64 S.length),(19,.int .i64 x.1)],[(2,⟨false,false,3,cts S,0⟩),(3,⟨false,false,3,cts x.2,0⟩)],4⟩) _ ?_
 rintro ⟨i,out⟩ hi ih s hs
 simp only at hi
 refine loop_s cd43 rfl rfl hs ?_
 obtain ⟨hi1,hi2⟩ := hi
 have hol : out.length≤i := by have := fold_len (S:=S.take i) (acc:=[]);rw [hi2] at this;simp at this;omega
 refine wa_ (wc_region (w_ (b_ (h:=wo_nil (e_ (h:=aft_normal (wa_ (?_))))))))
 refine c_ (h1:=?_) (h2:=?_)
 rotate_right 1
 focus
  intro c1
  first
  | exact dn c1
  | (
   have d1 := c1;try simp at d1
   refine wc_exit (?_)
   )
 rotate_right 1
 focus
  intro c1
  first
  | exact dn c1
  | (
   have d1 := c1;try simp at d1
   have hi : i < S.length := (by simp at c1;omega);have hw := wrap_succ (i:=i) (by omega);have g1 : (cts S)[i]? = some (nth S i).v := cts_nth hi;have g2 : (cts S)[i - 1]? = some (nth S (i - 1)).v := cts_nth (by omega)
   refine wc_skip (?_)
   )
 all_goals first
 | refine aft_exit ?_
 | (
  refine aft_normal ?_
  refine wa_ (wc_block (wa_ (wc_region (w_ (m_ (h:=w_ (x_ (h:=w_ (l_ (h:=w_ (al (h:=w_ (a_ (h:=w0 (s_ (h:=wo_nil (e_ (h:=aft_normal (?_)))))))))))))))))))
  refine wa_ (wa_ (wc_draw (y_ (m_ (h:=ax_ (h:=y_ (bE (h:=ax_ (h:=y_ (m_ (h:=ax_ (h:=?_))))))))))))
  refine gw_ (h1:=?_) (h2:=?_)
  rotate_right 1
  focus
   intro c2
   first
   | exact dn c2
   | (
    have d2 := c2;try simp at d2
    refine gd_ (h:=gd_ (h:=gd_ (h:=gd_ (h:=gd_ (h:=gd_ (h:=gd_ (h:=gd_ (h:=?_))))))))
    )
  rotate_right 1
  focus
   intro c2
   first
   | exact dn c2
   | (
    have d2 := c2;try simp at d2
    refine g_ (h:=y_ (m_ (h:=ax_ (h:=g_ (h:=y_ (m_ (h:=ax_ (h:=g_ (h:=y_ (?_))))))))))
    refine b_ (hv:=iv_sub (c:=i - 1) (by omega) (by omega)) (h:=?_)
    refine ax_ (h:=g_ (h:=y_ (x_ (h:=ax_ (h:=g_ (h:=y_ (l_ (h:=ax_ (h:=g_ (h:=y_ (l_ (h:=ax_ (h:=g_ (h:=y_ (ca (hc:=e_byC (nth S (i - 1)) (nth S i)) (h:=ax_ (h:=g_ (h:=y_ (bE (h:=ax_ (h:=?_)))))))))))))))))))))
    )
  all_goals
   refine y_ (pk (h:=ax_ (h:=wo_nil (ed (h:=?_)))))
  all_goals first
  | (
   refine aft_normal ?_
   refine c_ (h1:=?_) (h2:=?_)
   rotate_right 1
   focus
    intro c3
    first
    | exact dn c3
    | (
     have d3 := c3;try simp at d3
     have e3 : 0 < i∧byC (nth S (i - 1)) (nth S i) = 0 := (by simp at c2 c3;omega);obtain ⟨init,x,ho,hold⟩ := run_old hS hi e3.1 e3.2;obtain rfl : out = init ++ [x] := hi2.symm.trans ho;have hil : init.length < 2000000 := (by rw [List.length_append] at hol;omega);obtain ⟨L,hL⟩ : ∃ L,L = init.length := ⟨_,rfl⟩;have g3 : (cts (init ++ [x]))[L]? = some (V.agg [.int .i64 x.pl,.int .i64 x.ep,.int .i64 x.n]) := (by subst hL;simp [cts,Ct.v]);have g4 : (init ++ [x]).set L (⟨x.pl,x.ep,IntKind.i64.wrap (x.n + (nth S i).n)⟩ : Ct) = init ++ [⟨x.pl,x.ep,IntKind.i64.wrap (x.n + (nth S i).n)⟩] := (by subst hL;simp)
     refine wc_skip (?_)
     )
   rotate_right 1
   focus
    intro c3
    first
    | exact dn c3
    | (
     have d3 := c3;try simp at d3
     have e3 : i = 0∨byC (nth S (i - 1)) (nth S i) ≠ 0 := (by first | (left;simp at c2;omega) | (right;simpa using c3));have hnew := run_new hS hi e3 (hn i hi);rw [hi2] at hnew;obtain ⟨L,hL⟩ : ∃ L,L = out.length := ⟨_,rfl⟩;have g3 : (cts (out ++ [⟨(nth S i).pl,(nth S i).ep,0⟩]))[L]? = some (V.agg [.int .i64 (nth S i).pl,.int .i64 (nth S i).ep,.int .i64 0]) := (by subst hL;simp [cts,Ct.v]);have g4 : (out ++ [(⟨(nth S i).pl,(nth S i).ep,0⟩ : Ct)]).set L (⟨(nth S i).pl,(nth S i).ep,(nth S i).n⟩ : Ct) = out ++ [⟨(nth S i).pl,(nth S i).ep,(nth S i).n⟩] := (by subst hL;simp);have hn0 := hn i hi;have hn1 : IntKind.i64.wrap (nth S i).n = (nth S i).n := (by simpa using hn0)
     refine wc_region (w_ (m_ (h:=w_ (f_ (h:=w_ (l_ (h:=w_ (f_ (h:=w_ (l_ (h:=w_ (bd (h:=w_ (bs (h:=w_ (ap (h:=w_ (a_ (h:=wo_nil (e_ (h:=?_)))))))))))))))))))))
     )
   )
  all_goals first
  | (
   refine aft_normal ?_
   refine wc_draw (y_ (m_ (h:=ax_ (h:=y_ (m_ (h:=ax_ (h:=y_ (le (h:=ax_ (h:=y_ (?_)))))))))))
   refine b_ (hv:=iv_sub (c:=L) (by simp;omega) (by omega)) (h:=?_)
   refine ax_ (h:=y_ (x_ (h:=ax_ (h:=y_ (f_ (h:=ax_ (h:=y_ (l_ (h:=ax_ (h:=y_ (f_ (h:=ax_ (h:=y_ (l_ (h:=ax_ (h:=y_ (b_ (h:=ax_ (h:=y_ (x_ (h:=ax_ (h:=y_ (f_ (h:=ax_ (h:=y0 (s_ (h:=ax_ (h:=wo_nil (ed (h:=?_))))))))))))))))))))))))))))))
   )
  all_goals refine blk_normal ?_
  all_goals first
  | (
   refine aft_normal ?_
   refine wc_region (w_ (b_ (h:=w_ (m_ (h:=wo_nil (e_ (h:=?_)))))))
   )
  )
 all_goals first
 | (refine (ih ((i + 1,out ++ [⟨(nth S i).pl,(nth S i).ep,IntKind.i64.wrap (0 + (nth S i).n)⟩])) (⟨by simp only;omega,by simp only;rw [hnew]⟩) ?_ _ ?_).trans ?_;(focus (first | omega | (simp;done) | (simp;omega)));(focus (simp [normE,hw,g4,hn1];done));(focus (rfl)))
 | (refine (ih ((i + 1,init ++ [⟨x.pl,x.ep,IntKind.i64.wrap (x.n + (nth S i).n)⟩])) (⟨by simp only;omega,by simp only;rw [hold]⟩) ?_ _ ?_).trans ?_;(focus (first | omega | (simp;done) | (simp;omega)));(focus (simp [normE,hw,g4];done));(focus (rfl)))
 | (apply end_leaf (ex:=(Ext.exit 0)) 2 (some [7]);(focus (simp [normE];rfl));(focus (rw [← hi2,List.take_of_length_le (by simp at c1;omega)])))
end Go.Proofs.Ytbcgenkegnmkhaa.Ev
namespace Go.Proofs.Ytbcgenkegnmkhaa.Ev
open Go
set_option maxRecDepth 100000
set_option linter.unusedSimpArgs false
set_option linter.unusedVariables false
set_option maxHeartbeats 2000000
def okW (c : Ct) : Bool := inI c.n (-1000000000000) 1000000000000
def badW (c : Ct) : Bool := !okW c
theorem l_ix_BigC (l : List (Ct))  (p : Ct→Bool) (hl : l.length < 2000000) (hc : ∀ x∈l,oc.call 94 [x.v] = some (.bool (p x),[])) : ∀ i : Nat,i≤l.length→∀ s,normE 2 (some [0,1,7,8]) s = ⟨[(0,.lst false 0 (cts l)),(1,.clo 94 []),(7,.int .i64 l.length),(8,.int .i64 i)],[],2⟩ →
 oc.loop 125 2 s = some (if 0≤idxUC p i (l.drop i) then (.ret,⟨[(4,.int .i64 (idxUC p i (l.drop i)))],[],2⟩) else (.exit 0,⟨[],[],2⟩)) := by
 refine loop_ind (fun i => l.length - i) _ (fun i => ⟨[(0,.lst false 0 (cts l)),(1,.clo 94 []),(7,.int .i64 l.length),(8,.int .i64 i)],[],2⟩) _ ?_
 intro i hi ih s hs
 refine loop_s cd125 rfl rfl hs ?_
 refine wa_ (wc_region (w_ (b_ (h:=wo_nil (e_ (h:=aft_normal (wa_ (?_))))))))
 refine c_ (h1:=?_) (h2:=?_)
 rotate_right 1
 focus
  intro c1
  first
  | exact dn c1
  | (
   have d1 := c1;try simp at d1
   refine wc_exit (?_)
   )
 rotate_right 1
 focus
  intro c1
  first
  | exact dn c1
  | (
   have d1 := c1;try simp at d1
   have hw := wrap_succ (i:=i) (by omega);obtain ⟨x,hx,e1,g1⟩ := cts_cut (l:=l) (i:=i) (by omega);have hq := hc x (List.mem_of_getElem? hx)
   refine wc_skip (?_)
   )
 all_goals first
 | refine aft_exit ?_
 | (
  refine aft_normal ?_
  refine wa_ (wc_block (wa_ (wc_region (w_ (m_ (h:=w_ (a_ (h:=wo_nil (e_ (h:=aft_normal (wa_ (wc_region (w_ (m_ (h:=w_ (m_ (h:=?_)))))))))))))))))
  refine w_ (m_ (h:=w_ (x_ (h:=w_ (l_ (h:=w_ (?_)))))))
  refine k_callS rfl rfl (by rw [cf_in];rfl) rfl (by rw [cf_md];rfl) (by simp [cf_md,mdT];rfl) (by first | rfl | simp [*]) hq rfl (by simp;rfl) (by simp [cf_md,mdT]) (by simp;rfl) (by simp;rfl) ?_
  refine wo_nil (e_ (h:=aft_normal (?_)))
  refine c_ (h1:=?_) (h2:=?_)
  rotate_right 1
  focus
   intro c2
   first
   | exact dn c2
   | (
    have d2 := c2;try simp at d2
    refine wc_skip (?_)
    )
  rotate_right 1
  focus
   intro c2
   first
   | exact dn c2
   | (
    have d2 := c2;try simp at d2
    refine wa_ (wc_region (w_ (m_ (h:=w_ (a_ (h:=wo_nil (e_ (h:=aft_normal (wc_ret (?_))))))))))
    )
  all_goals first | refine blk_normal ?_ | refine blk_ret ?_
  all_goals first
  | refine aft_ret ?_
  | (
   refine aft_normal ?_
   refine wc_region (w_ (b_ (h:=w_ (m_ (h:=wo_nil (e_ (h:=?_)))))))
   )
  )
 all_goals first
 | (refine (ih (i + 1) (by omega) ?_ _ ?_).trans ?_;(focus (first | omega | (simp;done) | (simp;omega)));(focus (simp [normE,hw];done));(focus (rw [e1];simp only [idxUC,if_neg (show ¬ p x = true by simp [d2])])))
 | (apply end_leaf (ex:=Ext.ret) 2 (some [4]);(focus (simp [normE];rfl));(focus (rw [e1];simp [idxUC,d2])))
 | (apply end_leaf (ex:=(Ext.exit 0)) 2 (some [4]);(focus (simp [normE];rfl));(focus (rw [List.drop_eq_nil_of_le (by omega)];simp [idxUC])))
theorem e_ix_BigC (l : List (Ct))  (p : Ct→Bool) (hl : l.length < 2000000) (hc : ∀ x∈l,oc.call 94 [x.v] = some (.bool (p x),[])) : oc.call 125 [.lst false 0 (cts l),.clo 94 []] = some (.int .i64 (if 0≤idxUC p 0 l then idxUC p 0 l else -1),[]) := by
 refine fun_s rfl cd125 rfl rfl rfl (by simp;rfl) (by simp;rfl) ?_
 refine wa_ (wc_region (w_ (a_ (h:=wo_nil (e_ (h:=aft_normal (wa_ (wa_ (wc_region (w_ (m_ (h:=w_ (le (h:=w_ (m_ (h:=wo_nil (e_ (h:=?_))))))))))))))))))
 refine aft_normal (wc_block (?_))
 refine wc_loopI (l_ix_BigC l  p hl hc 0 (by omega) _ (by simp [normE])) ?_ ?_
 rotate_right 1
 focus
  intro c1
  skip
 rotate_right 1
 focus
  intro c1
  skip
 all_goals first | refine blk_ret ?_ | refine blk_exit ?_
 all_goals first
 | refine aft_ret ?_
 | (
  refine aft_normal ?_
  refine wa_ (wc_region (w_ (a_ (h:=wo_nil (e_ (h:=aft_normal (wc_ret (?_))))))))
  )
 all_goals (refine fin_ (hr:=(res_tmp rfl res_nil)) (h:=?_);(focus (clear hc;first | (simp_all;done) | (simp_all <;> omega))))
theorem e_any_BigC (l : List (Ct))  (p : Ct→Bool) (hl : l.length < 2000000) (hc : ∀ x∈l,oc.call 94 [x.v] = some (.bool (p x),[])) : oc.call 93 [.lst false 0 (cts l),.clo 94 []] = some (.bool (l.any p),[]) := by
 refine fun_s rfl cd93 rfl rfl rfl (by simp;rfl) (by simp;rfl) ?_
 refine wa_ (wc_region (w_ (a_ (h:=wo_nil (e_ (h:=aft_normal (wa_ (wc_region (w_ (m_ (h:=w_ (m_ (h:=w_ (ca (hc:=e_ix_BigC l  p hl hc) (h:=w_ (b_ (h:=w_ (a_ (h:=?_)))))))))))))))))))
 refine wo_nil (e_ (h:=aft_normal (wc_ret (?_))))
 all_goals (refine fin_ (hr:=(res_tmp rfl res_nil)) (h:=?_);(focus (clear hc;rw [← idxU_anyC (i:=0)];simp;grind)))
theorem e_rf2C (d : Ct) : oc.call 94 [d.v] = some (.bool (badW d),[]) := by
 refine fun_s rfl cd94 rfl rfl rfl (by simp;rfl) (by simp;rfl) ?_
 refine wa_ (wc_region (w_ (bx (h:=w_ (a_ (h:=wo_nil (e_ (h:=aft_normal (wa_ (wc_region (w_ (f_ (h:=w_ (l_ (h:=w_ (ca (hc:=e_isWeight _) (h:=w_ (u_ (h:=?_)))))))))))))))))))
 refine w_ (a_ (h:=wo_nil (e_ (h:=aft_normal (wc_ret (?_))))))
 all_goals (refine fin_ (hr:=(res_tmp rfl res_nil)) (h:=?_);(focus (simp [badW,okW])))
def addS (t : List Ct) : List Ct × Int := if t.any badW = true then ([],8) else if 200 < (t.filter isUC).length then ([],2) else (t.filter isUC,0)
theorem any_flt : ∀ (t : List Ct),(t.filter isUC).any badW = t.any badW
  | [] => rfl
  | c :: t => by
    have ih := any_flt t
    rw [List.filter_cons,List.any_cons]
    by_cases h : isUC c = true
    · rw [if_pos h,List.any_cons,ih]
    · rw [if_neg h,ih]
      have h0 : c.n = 0 := by simpa [isUC] using h
      have : badW c = false := by simp [badW,okW,h0,inI]
      rw [this];rfl
theorem nth_mem {α : Type} [Inhabited α] {l : List α} {i : Nat} (h : i < l.length) : nth l i∈l := List.mem_of_getElem? (nth_get h)
theorem e_addC (l m : List Ct) (hl : l.length < 500000) (hm : m.length < 500000) (hs1 : l.Pairwise (fun x y => ltC x y = true)) (hn : ∀ x∈l ++ m,IntKind.i64.wrap (0 + x.n) = x.n) : oc.call 43 [.lst false 0 (cts l),.lst false 0 (cts m)] = some (.tup [.lst true 3 (cts (addS (m.foldl putC l)).1),.int .i64 (addS (m.foldl putC l)).2],[]) := by
 refine fun_s rfl cd43 rfl rfl rfl (by simp;rfl) (by simp;rfl) ?_
 have hlm : (l ++ m).length < 1000000 := by simp;omega
 have hpp := (stb_ok O_ltC (l ++ m)).1
 have hse := sum_eq (m:=m) hs1
 obtain ⟨T,hT⟩ : ∃ T,(stb ltC (l ++ m)).foldl putC [] = T := ⟨_,rfl⟩
 rw [hT] at hse
 have hTl : T.length < 1000000 := by have := fold_len (S:=stb ltC (l ++ m)) (acc:=[]);rw [hT] at this;have := hpp.length_eq;simp at *;omega
 have hFl : (T.filter isUC).length < 1000000 := Nat.lt_of_le_of_lt (List.length_filter_le _ _) hTl
 have hrun := l_runs (stb ltC (l ++ m)) (by have := (stb_ok O_ltC (l ++ m)).2;rwa [← hpp.length_eq] at this) (by rw [hpp.length_eq];omega) (fun i hi => hn _ (hpp.mem_iff.1 (nth_mem hi))) (0,[]) ⟨by simp,by simp⟩
 rw [hT] at hrun
 have hpl : (stb ltC (l ++ m)).length = l.length + m.length := by rw [hpp.length_eq];simp
 refine wa_ (wc_region (w_ (aN (h:=w_ (a_ (h:=wo_nil (e_ (h:=aft_normal (wa_ (wc_region (w_ (m_ (h:=w_ (m_ (h:=w_ (bs (h:=w_ (ca (hc:=e_catC [l,m] (by simp) (by simp [lenSC];omega) (by simp)) (h:=?_)))))))))))))))))))
 refine w_ (bs (h:=w_ (a_ (h:=w_ (a_ (h:=wo_nil (e_ (h:=aft_normal (wa_ (wc_region (w_ (m_ (h:=w_ (?_))))))))))))))
 refine cI (hc:=e_stab (l ++ m) (by omega)) (hal:=cts_alk hpp.length_eq.symm) (h:=?_)
 refine wo_nil (e_ (h:=aft_normal (wa_ (wa_ (wc_region (w_ (m_ (h:=w_ (le (h:=w_ (m_ (h:=wo_nil (e_ (h:=aft_normal (wc_block (?_))))))))))))))))
 refine wc_loop (hrun _ (by simp [normE,hpl])) ?_
 refine blk_exit (aft_normal (wa_ (wc_region (w_ (m_ (h:=w_ (?_)))))))
 refine caT (hc:=e_delUC T (by omega)) (h:=?_)
 refine w_ (a_ (h:=wo_nil (e_ (h:=aft_normal (wa_ (wc_block (wa_ (wc_region (w_ (m_ (h:=w_ (ca (hc:=e_any_BigC (T.filter isUC) badW (by omega) (fun x _ => e_rf2C x)) (h:=w_ (a_ (h:=wo_nil (e_ (h:=aft_normal (?_))))))))))))))))))
 refine c_ (h1:=?_) (h2:=?_)
 rotate_right 1
 focus
  intro c1
  first
  | exact dn c1
  | (
   have d1 := c1;try simp at d1
   refine wa_ (wc_region (w_ (m_ (h:=w_ (le (h:=w_ (b_ (h:=w_ (a_ (h:=wo_nil (e_ (h:=aft_normal (?_)))))))))))))
   refine c_ (h1:=?_) (h2:=?_)
   rotate_right 1
   focus
    intro c2
    first
    | exact dn c2
    | (
     have d2 := c2;try simp at d2
     refine wc_skip (?_)
     )
   rotate_right 1
   focus
    intro c2
    first
    | exact dn c2
    | (
     have d2 := c2;try simp at d2
     refine wa_ (wc_region (w_ (aN (h:=w_ (a_ (h:=wo_nil (e_ (h:=aft_normal (wc_ret (?_))))))))))
     )
   )
 rotate_right 1
 focus
  intro c1
  first
  | exact dn c1
  | (
   have d1 := c1;try simp at d1
   refine wa_ (wc_region (w_ (aN (h:=w_ (a_ (h:=wo_nil (e_ (h:=aft_normal (wc_ret (?_))))))))))
   )
 all_goals first | refine blk_normal ?_ | refine blk_ret ?_
 all_goals first
 | refine aft_ret ?_
 | (
  refine aft_normal ?_
  refine wa_ (wc_region (w_ (m_ (h:=w_ (a_ (h:=w_ (a_ (h:=wo_nil (e_ (h:=aft_normal (wc_ret (?_))))))))))))
  )
 all_goals (refine fin_ (hr:=(res_tmp rfl (res_tmp rfl res_nil))) (h:=?_);(focus (rw [hse];unfold addS;rw [← any_flt];first | (simp [*];done) | (rw [if_neg (by simp [*]),if_pos (by first | assumption | omega | (simp at *;omega))];simp;done) | (rw [if_neg (by simp [*]),if_neg (by first | assumption | omega | (simp at *;omega))];simp;done))))
def posC : List Ct→Ct→Nat
  | [],_ => 0
  | x :: r,c => if ltC x c = true then posC r c + 1 else 0
theorem posC_le : ∀ (l : List Ct) (c : Ct),posC l c≤l.length
  | [],_ => by simp [posC]
  | x :: r,c => by
    have := posC_le r c
    unfold posC;split <;> simp <;> omega
theorem putC_at : ∀ (l : List Ct) (c : Ct),posC l c < l.length→ltC c (nth l (posC l c)) = false→putC l c = l.set (posC l c) (addN (nth l (posC l c)) c)
  | [],c,h,_ => by simp [posC] at h
  | x :: r,c,h,h2 => by
    rw [putC_cons]
    by_cases hx : ltC x c = true
    · have e : posC (x :: r) c = posC r c + 1 := by show (if ltC x c = true then posC r c + 1 else 0) = _;rw [if_pos hx]
      rw [e] at h h2 ⊢
      rw [if_pos hx,putC_at r c (by simpa using h) (by simpa [nth] using h2)]
      simp [nth]
    · have e : posC (x :: r) c = 0 := by show (if ltC x c = true then posC r c + 1 else 0) = _;rw [if_neg hx]
      rw [e] at h2 ⊢
      have h3 : ltC c x = false := by simpa [nth] using h2
      rw [if_neg hx,if_neg (by simp [h3])]
      simp [nth]
theorem putC_in : ∀ (l : List Ct) (c : Ct),(posC l c < l.length→ltC c (nth l (posC l c)) = true)→putC l c = l.take (posC l c) ++ [c] ++ l.drop (posC l c)
  | [],c,_ => rfl
  | x :: r,c,h2 => by
    rw [putC_cons]
    by_cases hx : ltC x c = true
    · have e : posC (x :: r) c = posC r c + 1 := by show (if ltC x c = true then posC r c + 1 else 0) = _;rw [if_pos hx]
      rw [e] at h2 ⊢
      rw [if_pos hx,putC_in r c (fun h => by simpa [nth] using h2 (by simpa using h))]
      simp
    · have e : posC (x :: r) c = 0 := by show (if ltC x c = true then posC r c + 1 else 0) = _;rw [if_neg hx]
      rw [e] at h2 ⊢
      have h3 : ltC c x = true := by simpa [nth] using h2 (by simp)
      rw [if_neg hx,if_pos h3];rfl
theorem putC_len {l : List Ct} {c : Ct} : (putC l c).length≤l.length + 1 := by
  have := fold_len (S:=[c]) (acc:=l)
  simpa using this
theorem ahead_lt (x y : Ct) : ahead x y = ltC x y := by
  have h := ltC_iff (x:=x) (y:=y)
  unfold ahead
  by_cases hp : x.pl = y.pl
  · rw [if_pos hp]
    cases hc : ltC x y
    · rw [ltC_no] at hc;simp;omega
    · rw [ltC_iff] at hc;simp;omega
  · rw [if_neg hp]
    cases hc : ltC x y
    · rw [ltC_no] at hc;simp;omega
    · rw [ltC_iff] at hc;simp;omega
theorem l_l7s (m A : List Ct) (c : Ct) (i : Nat) (hA : A.length < 2000000) : ∀ j : Nat,(j≤A.length)→∀ s,normE 2 (some [1,6,7,8,9]) s = ⟨[(1,.lst false 0 (cts m)),(6,.ref 2 0 A.length),(7,.int .i64 i),(8,.ptr 3 0 []),(9,.int .i64 j)],[(2,⟨false,false,3,cts A,0⟩),(3,⟨true,false,3,[c.v],0⟩)],4⟩ →
 oc.loop 46 7 s = some (.exit 2,⟨[(1,.lst false 0 (cts m)),(6,.ref 2 0 A.length),(7,.int .i64 i),(8,.ptr 3 0 []),(9,.int .i64 (j + posC (A.drop j) c : Nat))],[(2,⟨false,false,3,cts A,0⟩),(3,⟨true,false,3,[c.v],0⟩)],4⟩) := by
 refine loop_ind (σ:=Nat) (fun j => A.length - j) _ (fun j => ⟨[(1,.lst false 0 (cts m)),(6,.ref 2 0 A.length),(7,.int .i64 i),(8,.ptr 3 0 []),(9,.int .i64 j)],[(2,⟨false,false,3,cts A,0⟩),(3,⟨true,false,3,[c.v],0⟩)],4⟩) _ ?_
 intro j hi ih s hs
 refine loop_s cd46 rfl rfl hs ?_
 refine wa_ (wa_ (wc_draw (y_ (m_ (h:=ax_ (h:=y_ (m_ (h:=ax_ (h:=y_ (le (h:=ax_ (h:=y_ (b_ (h:=ax_ (h:=y_ (m_ (h:=ax_ (h:=?_))))))))))))))))))
 refine gw_ (h1:=?_) (h2:=?_)
 rotate_right 1
 focus
  intro c1
  first
  | exact dn c1
  | (
   have d1 := c1;try simp at d1
   refine gd_ (h:=gd_ (h:=gd_ (h:=gd_ (h:=gd_ (h:=gd_ (h:=?_))))))
   )
 rotate_right 1
 focus
  intro c1
  first
  | exact dn c1
  | (
   have d1 := c1;try simp at d1
   have hj : j < A.length := (by simp at c1;omega);have hw := wrap_succ (i:=j) (by omega);obtain ⟨x,hx,e1,g1⟩ := cts_cut (l:=A) (i:=j) (by omega)
   refine g_ (h:=y_ (m_ (h:=ax_ (h:=g_ (h:=y_ (m_ (h:=ax_ (h:=g_ (h:=y_ (x_ (h:=ax_ (h:=g_ (h:=y_ (l_ (h:=ax_ (h:=g_ (h:=y_ (l_ (h:=ax_ (h:=g_ (h:=y_ (ca (hc:=e_ahead x c) (h:=ax_ (h:=?_))))))))))))))))))))))))
   )
 all_goals
  refine y_ (pk (h:=ax_ (h:=wo_nil (ed (h:=?_)))))
 all_goals first
 | (
  refine aft_normal ?_
  refine c_ (h1:=?_) (h2:=?_)
  rotate_right 1
  focus
   intro c2
   first
   | exact dn c2
   | (
    have d2 := c2;try simp at d2
    refine wc_exit (?_)
    )
  rotate_right 1
  focus
   intro c2
   first
   | exact dn c2
   | (
    have d2 := c2;try simp at d2
    refine wc_skip (?_)
    )
  )
 all_goals first
 | refine aft_exit ?_
 | (
  refine aft_normal ?_
  refine wc_block (wc_region (w_ (m_ (h:=w_ (b_ (h:=w_ (a_ (h:=wo_nil (e_ (h:=blk_normal (?_)))))))))))
  )
 all_goals first
 | (refine (ih (j + 1) (by omega) ?_ _ ?_).trans ?_;(focus (first | omega | (simp;done) | (simp;omega)));(focus (simp [normE,hw];done));(focus (rw [e1];simp only [posC];rw [if_pos (by rw [← ahead_lt];simpa using d2),show j + (posC (A.drop (j + 1)) c + 1) = j + 1 + posC (A.drop (j + 1)) c by omega])))
 | (apply end_leaf (ex:=(Ext.exit 2)) 2 (some [1,6,7,8,9]);(focus (simp [normE];rfl));(focus (first | (rw [List.drop_eq_nil_of_le (by simp at c1;omega)];rfl) | (rw [e1];simp only [posC];rw [if_neg (by rw [← ahead_lt];simp [d2])];rfl))))
theorem cut_tailQ {e : List (Nat × V)} {o : List (Nat × Ob)} {n N I q : Nat} {ob : Ob} {k : Nat} {a : Int} (ha : a = (I : Int)) (h0 : 0 < I) (hI : I < N) (ho : geta o q = some ob) (hs : ob.sz = k) : cutV ⟨e,o,n⟩ k (.ref q 0 N) a (N : Int) = some (.ref q I (N - I)) := by
  subst ha
  unfold cutV
  simp only [if_neg (show ¬ (I : Int) = 0 by omega),if_neg (show ¬ (I : Int) = (N : Int) by omega),ho,hs,if_true]
  simp
theorem cut_end {s : St} {N I q k : Nat} {a : Int} (ha : a = (I : Int)) (h0 : 0 < I) (hI : I = N) : cutV s k (.ref q 0 N) a (N : Int) = some (.lst false 0 []) := by
  subst ha hI
  unfold cutV
  simp only [if_neg (show ¬ (I : Int) = 0 by omega),if_true]
theorem cut_zero {s : St} {N I q k : Nat} {a : Int} (ha : a = (I : Int)) (h0 : I = 0) : cutV s k (.ref q 0 N) a (N : Int) = some (.ref q 0 N) := by
  subst ha h0
  simp [cutV]
theorem l_l7a (m : List Ct) (hm : m.length < 500000) : ∀ x : Nat × (List Ct),(x.1≤m.length∧x.2.length < 500000 + x.1)→∀ s,normE 2 (some [1,6,7]) s = ⟨[(1,.lst false 0 (cts m)),(6,.ref 2 0 x.2.length),(7,.int .i64 x.1)],[(2,⟨false,false,3,cts x.2,0⟩)],3⟩ →
 oc.loop 46 3 s = some (.exit 0,⟨[(6,.ref 2 0 ((m.drop x.1).foldl putC x.2).length)],[(2,⟨false,false,3,cts ((m.drop x.1).foldl putC x.2),0⟩)],3⟩) := by
 refine loop_ind (σ:=Nat × (List Ct)) (fun x => m.length - x.1) _ (fun x => ⟨[(1,.lst false 0 (cts m)),(6,.ref 2 0 x.2.length),(7,.int .i64 x.1)],[(2,⟨false,false,3,cts x.2,0⟩)],3⟩) _ ?_
 rintro ⟨i,A⟩ hi ih s hs
 simp only at hi
 refine loop_s cd46 rfl rfl hs ?_
 obtain ⟨hi1,hi2⟩ := hi
 refine wa_ (wa_ (wc_region (w_ (m_ (h:=w_ (m_ (h:=w_ (le (h:=w_ (b_ (h:=wo_nil (e_ (h:=aft_normal (?_))))))))))))))
 refine c_ (h1:=?_) (h2:=?_)
 rotate_right 1
 focus
  intro c1
  first
  | exact dn c1
  | (
   have d1 := c1;try simp at d1
   refine wc_exit (?_)
   )
 rotate_right 1
 focus
  intro c1
  first
  | exact dn c1
  | (
   have d1 := c1;try simp at d1
   have hj : i < m.length := (by simp at c1;omega);have hw := wrap_succ (i:=i) (by omega);obtain ⟨c,hx,e1,g1⟩ := cts_cut (l:=m) (i:=i) (by omega);have hpl := posC_le A c;have hpu := putC_len (l:=A) (c:=c);obtain ⟨p,hp⟩ : ∃ p,posC A c = p := ⟨_,rfl⟩;have hls := l_l7s m A c i (by omega) 0 (by omega);simp only [List.drop_zero,Nat.zero_add,hp] at hls
   refine wc_skip (?_)
   )
 all_goals first
 | refine aft_exit ?_
 | (
  refine aft_normal ?_
  refine wa_ (wc_block (wa_ (wc_region (w_ (m_ (h:=w_ (m_ (h:=w_ (x_ (h:=w_ (l_ (h:=w_ (al (h:=w0 (s_ (h:=wo_nil (e_ (h:=aft_normal (?_)))))))))))))))))))
  refine wa_ (wc_region (w_ (a_ (h:=wo_nil (e_ (h:=aft_normal (wa_ (wc_block (?_)))))))))
  refine wc_loop (hls _ (by simp [normE])) ?_
  refine blk_exit (aft_normal (wa_ (wa_ (wc_draw (y_ (m_ (h:=ax_ (h:=y_ (m_ (h:=ax_ (h:=y_ (le (h:=ax_ (h:=y_ (b_ (h:=ax_ (h:=y_ (m_ (h:=ax_ (h:=?_))))))))))))))))))))
  refine gw_ (h1:=?_) (h2:=?_)
  rotate_right 1
  focus
   intro c2
   first
   | exact dn c2
   | (
    have d2 := c2;try simp at d2
    refine gd_ (h:=gd_ (h:=gd_ (h:=gd_ (h:=gd_ (h:=gd_ (h:=gd_ (h:=?_)))))))
    )
  rotate_right 1
  focus
   intro c2
   first
   | exact dn c2
   | (
    have d2 := c2;try simp at d2
    have g2 : (cts A)[p]? = some (nth A p).v := cts_nth (by simp at c2;omega)
    refine g_ (h:=y_ (l_ (h:=ax_ (h:=g_ (h:=y_ (m_ (h:=ax_ (h:=g_ (h:=y_ (m_ (h:=ax_ (h:=g_ (h:=y_ (x_ (h:=ax_ (h:=g_ (h:=y_ (l_ (h:=ax_ (h:=g_ (h:=y_ (ca (hc:=e_ahead c (nth A p)) (h:=ax_ (h:=g_ (h:=y_ (u_ (h:=ax_ (h:=?_))))))))))))))))))))))))))))
    )
  all_goals
   refine y_ (pk (h:=ax_ (h:=wo_nil (ed (h:=?_)))))
  all_goals first
  | (
   refine aft_normal ?_
   refine c_ (h1:=?_) (h2:=?_)
   rotate_right 1
   focus
    intro c3
    first
    | exact dn c3
    | (
     have d3 := c3;try simp at d3
     have k1 : p < A.length→ltC c (nth A p) = true := (fun h => by first | (exfalso;simp at c2;omega) | simpa [ahead_lt] using d3);have k2 := putC_in A c (fun h => by rw [hp] at h ⊢;exact k1 h);rw [hp] at k2 hpl;have k9 : (A.drop p).take (A.length - p) = A.drop p := (by rw [List.take_of_length_le (by simp)]);have km : min p A.length = p := (by omega);have kl : 1 + A.length = A.length + 1 := Nat.add_comm ..;have kq : p + 1 + (A.length - p) = p + (A.length - p + 1) := (by omega);have kt : (A.take p ++ [c]).take (p + 1) = A.take p ++ [c] := List.take_of_length_le (by simp;omega);have ku : (A.take p).take p = A.take p := (by rw [List.take_take,Nat.min_self]);have kz : (A ++ [c]).take (A.length + 1) = A ++ [c] := List.take_of_length_le (by simp);rcases (show p = 0∨(0 < p∧p < A.length)∨(0 < p∧p = A.length) by omega) with hp0 | hp0 | hp0
     all_goals
      refine wc_skip (?_)
     )
   rotate_right 1
   focus
    intro c3
    first
    | exact dn c3
    | (
     have d3 := c3;try simp at d3
     have k1 : ltC c (nth A p) = false := (by simpa [ahead_lt] using d3);have k2 := putC_at A c (by simp at c2;omega) (by rw [hp];exact k1);rw [hp] at k2
     refine wa_ (wc_draw (y_ (m_ (h:=ax_ (h:=y_ (m_ (h:=ax_ (h:=y_ (m_ (h:=ax_ (h:=y_ (m_ (h:=ax_ (h:=y_ (x_ (h:=ax_ (h:=y_ (f_ (h:=ax_ (h:=y_ (l_ (h:=ax_ (h:=y_ (f_ (h:=ax_ (h:=y_ (l_ (h:=ax_ (h:=y_ (b_ (h:=ax_ (h:=?_))))))))))))))))))))))))))))))))
     refine y_ (x_ (h:=ax_ (h:=y_ (f_ (h:=ax_ (h:=y0 (s_ (h:=ax_ (h:=wo_nil (ed (h:=aft_normal (wc_exit (?_)))))))))))))
     )
   )
  all_goals first
  | refine aft_exit ?_
  | (
   refine aft_normal ?_
   refine wc_draw (y_ (bs (h:=ax_ (h:=y_ (m_ (h:=ax_ (h:=y_ (m_ (h:=ax_ (h:=y_ (sl (h:=ax_ (h:=y_ (?_))))))))))))))
   refine ap (hel2:=if_pos (by omega)) (h:=?_)
   refine ax_ (h:=y_ (l_ (h:=ax_ (h:=y_ (?_)))))
   refine bs (hc:=⟨rfl,by first | decide | simp,rfl⟩) (h:=?_)
   refine ax_ (h:=y_ (ap (h:=ax_ (h:=y_ (m_ (h:=ax_ (h:=y_ (m_ (h:=ax_ (h:=y_ (?_)))))))))))
   first | refine sl (v:=.ref 2 p (A.length - p)) (hv:=cut_tailQ rfl (by omega) (by omega) rfl rfl) (h:=?_) | refine sl (v:=.lst false 0 []) (hv:=cut_end rfl (by omega) (by omega)) (h:=?_) | refine sl (v:=.ref 2 0 A.length) (hv:=cut_zero rfl (by omega)) (h:=?_)
   refine ax_ (h:=y_ (?_))
   first | refine ap (hel2:=if_pos (by omega)) (h:=?_) | refine ap (h:=?_)
   refine ax_ (h:=y_ (a_ (h:=ax_ (h:=wo_nil (ed (h:=?_))))))
   )
  all_goals first | refine blk_normal ?_ | refine blk_exit ?_
  all_goals first
  | (
   refine aft_normal ?_
   refine wc_region (w_ (m_ (h:=w_ (b_ (h:=w_ (a_ (h:=wo_nil (e_ (h:=?_)))))))))
   )
  )
 all_goals first
 | (apply end_leaf (ex:=(Ext.exit 0)) 2 (some [6]);(focus (simp [normE];rfl));(focus (rw [List.drop_eq_nil_of_le (by simp at c1;omega)];rfl)))
 | (refine (ih ((i + 1,putC A c)) (⟨by simp only;omega,by simp only;omega⟩) ?_ _ ?_).trans ?_;(focus (first | omega | (simp;done) | (simp;omega)));(focus (simp [normE,hw,hp,k2,addN];done));(focus (rw [e1];rfl)))
 | (refine (ih ((i + 1,putC A c)) (⟨by simp only;omega,by simp only;omega⟩) ?_ _ ?_).trans ?_;(focus (first | omega | (simp;done) | (simp;omega)));(focus (simp [normE,hw,hp,k2,k9,hp0,km,kl,kq,kt,kz,ku];done));(focus (rw [e1];rfl)))
def fltS : List Ct→List Ct→Bool × List Ct
  | [],o => (false,o)
  | c :: r,o => if okW c = false then (true,o) else if c.n = 0 then fltS r o else fltS r (o ++ [c])
theorem fltS_eq : ∀ (t o : List Ct),(fltS t o).1 = t.any badW∧(t.any badW = false→(fltS t o).2 = o ++ t.filter isUC)
  | [],o => by simp [fltS]
  | c :: t,o => by
    unfold fltS
    rw [List.any_cons,List.filter_cons]
    by_cases h : okW c = false
    · rw [if_pos h];simp [badW,h]
    · rw [if_neg h]
      have hb : badW c = false := by simpa [badW] using h
      by_cases h0 : c.n = 0
      · rw [if_pos h0,hb,if_neg (by simp [isUC,h0])];simpa using fltS_eq t o
      · rw [if_neg h0,hb,if_pos (by simp [isUC,h0])];simpa using fltS_eq t (o ++ [c])
theorem fltS_b {c : Ct} {r o : List Ct} (h : okW c = false) : fltS (c :: r) o = (true,o) := by rw [fltS,if_pos h]
theorem fltS_z {c : Ct} {r o : List Ct} (h : okW c = true) (h0 : c.n = 0) : fltS (c :: r) o = fltS r o := by rw [fltS,if_neg (by simp [h]),if_pos h0]
theorem fltS_n {c : Ct} {r o : List Ct} (h : okW c = true) (h0 : ¬ c.n = 0) : fltS (c :: r) o = fltS r (o ++ [c]) := by rw [fltS,if_neg (by simp [h]),if_neg h0]
theorem l_l7f (A : List Ct) (hA : A.length < 2000000) : ∀ x : Nat × (List Ct),(x.1≤A.length∧x.2.length≤x.1)→∀ s,normE 2 (some [6,10,11]) s = ⟨[(6,.ref 2 0 A.length),(10,.ref 3 0 x.2.length),(11,.int .i64 x.1)],[(2,⟨false,false,3,cts A,0⟩),(3,⟨false,false,3,cts x.2,0⟩)],4⟩ →
 oc.loop 46 14 s = some (if (fltS (A.drop x.1) x.2).1 = true then (.ret,⟨[(4,.lst true 3 []),(5,.int .i64 8),(10,.ref 2 0 (fltS (A.drop x.1) x.2).2.length)],[(2,⟨false,false,3,cts (fltS (A.drop x.1) x.2).2,0⟩)],3⟩) else (.exit 4,⟨[(10,.ref 2 0 (fltS (A.drop x.1) x.2).2.length)],[(2,⟨false,false,3,cts (fltS (A.drop x.1) x.2).2,0⟩)],3⟩)) := by
 refine loop_ind (σ:=Nat × (List Ct)) (fun x => A.length - x.1) _ (fun x => ⟨[(6,.ref 2 0 A.length),(10,.ref 3 0 x.2.length),(11,.int .i64 x.1)],[(2,⟨false,false,3,cts A,0⟩),(3,⟨false,false,3,cts x.2,0⟩)],4⟩) _ ?_
 rintro ⟨i,o⟩ hi ih s hs
 simp only at hi
 refine loop_s cd46 rfl rfl hs ?_
 obtain ⟨hi1,hi2⟩ := hi
 refine wa_ (wa_ (wc_region (w_ (m_ (h:=w_ (m_ (h:=w_ (le (h:=w_ (b_ (h:=wo_nil (e_ (h:=aft_normal (?_))))))))))))))
 refine c_ (h1:=?_) (h2:=?_)
 rotate_right 1
 focus
  intro c1
  first
  | exact dn c1
  | (
   have d1 := c1;try simp at d1
   refine wc_exit (?_)
   )
 rotate_right 1
 focus
  intro c1
  first
  | exact dn c1
  | (
   have d1 := c1;try simp at d1
   have hj : i < A.length := (by simp at c1;omega);have hw := wrap_succ (i:=i) (by omega);obtain ⟨c,hx,e1,g1⟩ := cts_cut (l:=A) (i:=i) (by omega)
   refine wc_skip (?_)
   )
 all_goals first
 | refine aft_exit ?_
 | (
  refine aft_normal ?_
  refine wa_ (wc_block (wa_ (wa_ (wc_region (w_ (m_ (h:=w_ (m_ (h:=w_ (x_ (h:=w_ (f_ (h:=w_ (l_ (h:=w_ (ca (hc:=e_l1Weight _) (h:=w_ (u_ (h:=?_)))))))))))))))))))
  refine wo_nil (e_ (h:=aft_normal (?_)))
  refine c_ (h1:=?_) (h2:=?_)
  rotate_right 1
  focus
   intro c2
   first
   | exact dn c2
   | (
    have d2 := c2;try simp at d2
    refine wc_skip (?_)
    )
  rotate_right 1
  focus
   intro c2
   first
   | exact dn c2
   | (
    have d2 := c2;try simp at d2
    refine wa_ (wc_region (w_ (aN (h:=w_ (a_ (h:=wo_nil (e_ (h:=aft_normal (wc_ret (?_))))))))))
    )
  all_goals first
  | refine aft_ret ?_
  | (
   refine aft_normal ?_
   refine wa_ (wc_region (w_ (m_ (h:=w_ (m_ (h:=w_ (x_ (h:=w_ (f_ (h:=w_ (l_ (h:=w_ (bE (h:=wo_nil (e_ (h:=aft_normal (?_)))))))))))))))))
   refine c_ (h1:=?_) (h2:=?_)
   rotate_right 1
   focus
    intro c3
    first
    | exact dn c3
    | (
     have d3 := c3;try simp at d3
     refine wc_skip (?_)
     )
   rotate_right 1
   focus
    intro c3
    first
    | exact dn c3
    | (
     have d3 := c3;try simp at d3
     refine wc_region (w_ (m_ (h:=w_ (m_ (h:=w_ (m_ (h:=w_ (x_ (h:=w_ (l_ (h:=w_ (?_))))))))))))
     refine bs (hc:=⟨rfl,by first | decide | simp,rfl⟩) (h:=?_)
     refine w_ (ap (h:=w_ (a_ (h:=wo_nil (e_ (h:=?_))))))
     )
   )
  all_goals first | refine blk_normal ?_ | refine blk_ret ?_
  all_goals first
  | refine aft_ret ?_
  | (
   refine aft_normal ?_
   refine wc_region (w_ (m_ (h:=w_ (b_ (h:=w_ (a_ (h:=wo_nil (e_ (h:=?_)))))))))
   )
  )
 all_goals first
 | (apply end_leaf (ex:=(Ext.exit 4)) 2 (some [4,5,10]);(focus (simp [normE];rfl));(focus (rw [List.drop_eq_nil_of_le (by simp at c1;omega)];rfl)))
 | (apply end_leaf (ex:=Ext.ret) 2 (some [4,5,10]);(focus (simp [normE];rfl));(focus (rw [e1,fltS_b (by simpa [okW] using d2)];rfl)))
 | (refine (ih ((i + 1,o)) (⟨by simp only;omega,by simp only;omega⟩) ?_ _ ?_).trans ?_;(focus (first | omega | (simp;done) | (simp;omega)));(focus (simp [normE,hw];done));(focus (rw [e1,fltS_z (by simpa [okW] using d2) (by simpa using d3)])))
 | (refine (ih ((i + 1,o ++ [c])) (⟨by simp only;omega,by simp;omega⟩) ?_ _ ?_).trans ?_;(focus (first | omega | (simp;done) | (simp;omega)));(focus (simp [normE,hw];done));(focus (rw [e1,fltS_n (by simpa [okW] using d2) (by simpa using d3)])))
theorem e_l7Add (l m : List Ct) (hl : l.length < 500000) (hm : m.length < 500000) : oc.call 46 [.lst false 0 (cts l),.lst false 0 (cts m)] = some (.tup [.lst true 3 (cts (addS (m.foldl putC l)).1),.int .i64 (addS (m.foldl putC l)).2],[]) := by
 refine fun_s rfl cd46 rfl rfl rfl (by simp;rfl) (by simp;rfl) ?_
 obtain ⟨T,hT⟩ : ∃ T,m.foldl putC l = T := ⟨_,rfl⟩
 have hTl : T.length < 1000000 := by have := fold_len (S:=m) (acc:=l);rw [hT] at this;omega
 have hl3 := l_l7a m hm (0,l) ⟨by simp,by simpa using hl⟩
 have hl14 := l_l7f T (by omega) (0,[]) ⟨by simp,by simp⟩
 obtain ⟨q1,q2⟩ := fltS_eq T []
 simp only [List.drop_zero,hT,List.nil_append] at hl3 hl14 q2
 obtain ⟨b,O,hbo⟩ : ∃ b O,fltS T [] = (b,O) := ⟨_,_,rfl⟩
 rw [hbo] at q1 q2 hl14
 simp only at q1 q2 hl14
 have ha : addS T = if b = true then ([],8) else if 200 < O.length then ([],2) else (O,0) := by cases b with | true => (unfold addS;rw [← q1];try rfl) | false => (unfold addS;rw [← q1,q2 q1.symm];try rfl)
 clear q1 q2 hbo
 refine wa_ (wc_region (w_ (aN (h:=w_ (a_ (h:=wo_nil (e_ (h:=aft_normal (wa_ (wc_region (w_ (bs (h:=w_ (m_ (h:=w_ (ap (h:=w_ (a_ (h:=?_)))))))))))))))))))
 refine wo_nil (e_ (h:=aft_normal (wa_ (wa_ (wc_region (w_ (a_ (h:=wo_nil (e_ (h:=aft_normal (wc_block (?_))))))))))))
 refine wc_loop (hl3 _ (by simp [normE])) ?_
 refine blk_exit (aft_normal (wa_ (wc_region (w_ (bs (h:=w_ (a_ (h:=wo_nil (e_ (h:=aft_normal (wa_ (wa_ (wc_region (w_ (a_ (h:=?_))))))))))))))))
 refine wo_nil (e_ (h:=aft_normal (wc_block (?_))))
 refine wc_loopI (hl14 _ (by simp [normE])) ?_ ?_
 rotate_right 1
 focus
  intro c1
  first
  | exact dn c1
  | (
   have d1 := c1;try simp at d1
   skip
   )
 rotate_right 1
 focus
  intro c1
  first
  | exact dn c1
  | (
   have d1 := c1;try simp at d1
   skip
   )
 all_goals first | refine blk_ret ?_ | refine blk_exit ?_
 all_goals first
 | refine aft_ret ?_
 | (
  refine aft_normal ?_
  refine wa_ (wa_ (wc_region (w_ (m_ (h:=w_ (le (h:=w_ (b_ (h:=wo_nil (e_ (h:=aft_normal (?_))))))))))))
  refine c_ (h1:=?_) (h2:=?_)
  rotate_right 1
  focus
   intro c2
   first
   | exact dn c2
   | (
    have d2 := c2;try simp at d2
    refine wc_skip (?_)
    )
  rotate_right 1
  focus
   intro c2
   first
   | exact dn c2
   | (
    have d2 := c2;try simp at d2
    refine wa_ (wc_region (w_ (aN (h:=w_ (a_ (h:=wo_nil (e_ (h:=aft_normal (wc_ret (?_))))))))))
    )
  all_goals first
  | refine aft_ret ?_
  | (
   refine aft_normal ?_
   refine wa_ (wc_region (w_ (m_ (h:=w_ (a_ (h:=w_ (a_ (h:=wo_nil (e_ (h:=aft_normal (wc_ret (?_))))))))))))
   )
  )
 all_goals (refine fin_ (hr:=(res_tmp rfl (res_tmp rfl res_nil))) (h:=?_);(focus (rw [hT,ha];first | (simp [*];done) | (rw [if_neg (by simp [*]),if_pos (by first | assumption | omega | (simp at *;omega))];simp;done) | (rw [if_neg (by simp [*]),if_neg (by first | assumption | omega | (simp at *;omega))];simp;done))))
def mkI (k : Int) (n : Nat) : List Int := (List.range n).map fun (i : Nat) => k + i
@[simp] theorem mkI_len {k : Int} {n : Nat} : (mkI k n).length = n := by simp [mkI]
theorem alikeL_map {α : Type} {f g : α→V} (hf : ∀ x y,(f x).alike (g y) = true) : ∀ {a b : List α},V.alikeL (a.map f) (b.map g) = decide (a.length = b.length)
  | [],[] => rfl
  | [],_ :: _ => by simp [V.alikeL]
  | _ :: _,[] => by simp [V.alikeL]
  | x :: a,y :: b => by simp only [List.map_cons,V.alikeL,hf,Bool.true_and,alikeL_map hf (a:=a) (b:=b),List.length_cons,Nat.add_right_cancel_iff]
@[simp] theorem alike_ints (a b : List Int) : V.alikeL (ints a) (ints b) = decide (a.length = b.length) := alikeL_map (fun _ _ => rfl)
def cn_Ct (x : Ct) : Nat := 1 + 1 + 1
def cn_Cts (l : List Ct) : Nat := wS cn_Ct l
def mk_Ct (k : Int) (x : Ct) : Ct := ⟨k,k + 1,k + 1 + 1⟩
@[simp] theorem mk_Ct_pl (k : Int) (x : Ct) : (mk_Ct k x).pl = k := rfl
@[simp] theorem mk_Ct_ep (k : Int) (x : Ct) : (mk_Ct k x).ep = k + 1 := rfl
@[simp] theorem mk_Ct_n (k : Int) (x : Ct) : (mk_Ct k x).n = k + 1 + 1 := rfl
def mk_Cts (k : Int) : List Ct→List Ct
  | [] => []
  | x :: r => mk_Ct k x :: mk_Cts (k + (cn_Ct x : Nat)) r
@[simp] theorem mk_Cts_len {k : Int} {l : List Ct} : (mk_Cts k l).length = l.length := by
  induction l generalizing k with
  | nil => rfl
  | cons x r ih => simp [mk_Cts,ih]
@[simp] theorem mk_Cts_take {k : Int} {l : List Ct} : (mk_Cts k l).take l.length = mk_Cts k l := List.take_of_length_le (by simp)
@[simp] theorem alike_cts (a b : List Ct) : V.alikeL (cts a) (cts b) = decide (a.length = b.length) := alikeL_map (fun _ _ => rfl)
def cn_Nd (x : Nd) : Nat := 1 + 1 + 1 + 1 + 1 + 1 + x.cells.length
def mk_Nd (k : Int) (x : Nd) : Nd := ⟨k,k + 1,k + 1 + 1,k + 1 + 1 + 1,k + 1 + 1 + 1 + 1,k + 1 + 1 + 1 + 1 + 1,mkI (k + 1 + 1 + 1 + 1 + 1 + 1) x.cells.length⟩
@[simp] theorem mk_Nd_op (k : Int) (x : Nd) : (mk_Nd k x).op = k := rfl
@[simp] theorem mk_Nd_a (k : Int) (x : Nd) : (mk_Nd k x).a = k + 1 := rfl
@[simp] theorem mk_Nd_b (k : Int) (x : Nd) : (mk_Nd k x).b = k + 1 + 1 := rfl
@[simp] theorem mk_Nd_col (k : Int) (x : Nd) : (mk_Nd k x).col = k + 1 + 1 + 1 := rfl
@[simp] theorem mk_Nd_test (k : Int) (x : Nd) : (mk_Nd k x).test = k + 1 + 1 + 1 + 1 := rfl
@[simp] theorem mk_Nd_value (k : Int) (x : Nd) : (mk_Nd k x).value = k + 1 + 1 + 1 + 1 + 1 := rfl
@[simp] theorem mk_Nd_cells (k : Int) (x : Nd) : (mk_Nd k x).cells = mkI (k + 1 + 1 + 1 + 1 + 1 + 1) x.cells.length := rfl
def mk_Nds (k : Int) : List Nd→List Nd
  | [] => []
  | x :: r => mk_Nd k x :: mk_Nds (k + (cn_Nd x : Nat)) r
@[simp] theorem mk_Nds_len {k : Int} {l : List Nd} : (mk_Nds k l).length = l.length := by
  induction l generalizing k with
  | nil => rfl
  | cons x r ih => simp [mk_Nds,ih]
@[simp] theorem mk_Nds_take {k : Int} {l : List Nd} : (mk_Nds k l).take l.length = mk_Nds k l := List.take_of_length_le (by simp)
@[simp] theorem alike_nds (t u : Bool) (s z : Nat) (a b : List Nd) : V.alikeL (nds t s a) (nds u z b) = decide (a.length = b.length) := alikeL_map (fun _ _ => rfl)
def cn_Et (x : Et) : Nat := x.row.length + 1
def cn_Ets (l : List Et) : Nat := wS cn_Et l
def mk_Et (k : Int) (x : Et) : Et := ⟨mkI (k) x.row.length,k + (x.row.length : Nat)⟩
@[simp] theorem mk_Et_row (k : Int) (x : Et) : (mk_Et k x).row = mkI (k) x.row.length := rfl
@[simp] theorem mk_Et_w (k : Int) (x : Et) : (mk_Et k x).w = k + (x.row.length : Nat) := rfl
def mk_Ets (k : Int) : List Et→List Et
  | [] => []
  | x :: r => mk_Et k x :: mk_Ets (k + (cn_Et x : Nat)) r
@[simp] theorem mk_Ets_len {k : Int} {l : List Et} : (mk_Ets k l).length = l.length := by
  induction l generalizing k with
  | nil => rfl
  | cons x r ih => simp [mk_Ets,ih]
@[simp] theorem mk_Ets_take {k : Int} {l : List Et} : (mk_Ets k l).take l.length = mk_Ets k l := List.take_of_length_le (by simp)
@[simp] theorem alike_ets (t u : Bool) (a b : List Et) : V.alikeL (ets t a) (ets u b) = decide (a.length = b.length) := alikeL_map (fun _ _ => rfl)
def cn_Fr (x : Fr) : Nat := 1 + 1 + 1 + 1 + cn_Ets x.set + cn_Cts x.news
def mk_Fr (k : Int) (x : Fr) : Fr := ⟨k,k + 1,k + 1 + 1,k + 1 + 1 + 1,mk_Ets (k + 1 + 1 + 1 + 1) x.set,mk_Cts (k + 1 + 1 + 1 + 1 + (cn_Ets x.set : Nat)) x.news⟩
@[simp] theorem mk_Fr_kind (k : Int) (x : Fr) : (mk_Fr k x).kind = k := rfl
@[simp] theorem mk_Fr_node (k : Int) (x : Fr) : (mk_Fr k x).node = k + 1 := rfl
@[simp] theorem mk_Fr_side (k : Int) (x : Fr) : (mk_Fr k x).side = k + 1 + 1 := rfl
@[simp] theorem mk_Fr_ep (k : Int) (x : Fr) : (mk_Fr k x).ep = k + 1 + 1 + 1 := rfl
@[simp] theorem mk_Fr_set (k : Int) (x : Fr) : (mk_Fr k x).set = mk_Ets (k + 1 + 1 + 1 + 1) x.set := rfl
@[simp] theorem mk_Fr_news (k : Int) (x : Fr) : (mk_Fr k x).news = mk_Cts (k + 1 + 1 + 1 + 1 + (cn_Ets x.set : Nat)) x.news := rfl
def mk_Frs (k : Int) : List Fr→List Fr
  | [] => []
  | x :: r => mk_Fr k x :: mk_Frs (k + (cn_Fr x : Nat)) r
@[simp] theorem mk_Frs_len {k : Int} {l : List Fr} : (mk_Frs k l).length = l.length := by
  induction l generalizing k with
  | nil => rfl
  | cons x r ih => simp [mk_Frs,ih]
@[simp] theorem mk_Frs_take {k : Int} {l : List Fr} : (mk_Frs k l).take l.length = mk_Frs k l := List.take_of_length_le (by simp)
@[simp] theorem alike_frs (t u : Bool) (a b : List Fr) : V.alikeL (frs t a) (frs u b) = decide (a.length = b.length) := alikeL_map (fun _ _ => rfl)
end Go.Proofs.Ytbcgenkegnmkhaa.Ev
namespace Go.Proofs.Ytbcgenkegnmkhaa.Ev
open Go
set_option maxRecDepth 100000
set_option linter.unusedSimpArgs false
set_option linter.unusedVariables false
set_option maxHeartbeats 2000000
@[simp] abbrev crv (r : Int × List Ct) : V := .agg [.int .i64 r.1,.lst true 3 (cts r.2)]
@[simp] abbrev crF (r : Int × List Ct) : V := .agg [.int .i64 r.1,.lst false 0 (cts r.2)]
end Go.Proofs.Ytbcgenkegnmkhaa.Ev
namespace Go.Proofs.Ytbcgenkegnmkhaa.Ev
open Go
set_option maxRecDepth 100000
set_option linter.unusedSimpArgs false
set_option linter.unusedVariables false
set_option maxHeartbeats 2000000
def badR (pl : List Nd) : List Ct→Bool
  | [] => false
  | c :: r => if rightC pl c = false then true else badR pl r
theorem badR_t {pl : List Nd} {c : Ct} {r : List Ct} (h : rightC pl c = false) : badR pl (c :: r) = true := by rw [badR,if_pos h]
theorem badR_f {pl : List Nd} {c : Ct} {r : List Ct} (h : rightC pl c = true) : badR pl (c :: r) = badR pl r := by rw [badR,if_neg (by simp [h])]
theorem badR_mem {pl : List Nd} : ∀ {l : List Ct},badR pl l = false→∀ x∈l,rightC pl x = true
  | [],_,x,hx => by cases hx
  | c :: r,h,x,hx => by
    by_cases hc : rightC pl c = true
    · rw [badR_f hc] at h
      rcases List.mem_cons.1 hx with rfl | hx
      · exact hc
      · exact badR_mem h x hx
    · rw [badR_t (by simpa using hc)] at h;cases h
def adN (pl : List Nd) (l m : List Ct) : Int × List Ct :=
  if ctsN pl l = 0 then if 200 < m.length then (2,[]) else if badR pl m = true then (3,[]) else ((addS (m.foldl putC l)).2,(addS (m.foldl putC l)).1) else (ctsN pl l,[])
theorem rightC_n {pl : List Nd} {c : Ct} (h : rightC pl c = true) : -1000000000000≤c.n∧c.n≤1000000000000 := by
  simp [rightC,inI] at h;exact h.2.2
theorem w64_in {a : Int} (h : -1000000000000≤a∧a≤1000000000000) : IntKind.i64.wrap (0 + a) = a := by
  rw [Int.zero_add];exact wrap_id (by omega) (by omega)
theorem ctsR_ok {pl : List Nd} : ∀ {l : List Ct} {p : Option Ct},ctsR pl p l = 0→(∀ x∈l,rightC pl x = true)∧(match p with | some q => (q :: l).Pairwise (fun x y => ltC x y = true) | none => l.Pairwise (fun x y => ltC x y = true))
  | [],p,_ => by refine ⟨fun x hx => (by cases hx),?_⟩;cases p <;> simp
  | c :: r,p,h => by
    by_cases h1 : rightC pl c = false∨c.n = 0
    · rw [ctsR_3 h1] at h;cases h
    · by_cases h2 : (p.elim false fun q => !ahead q c) = true
      · rw [ctsR_1 h1 h2] at h;cases h
      · rw [ctsR_0 h1 h2] at h
        obtain ⟨a,b⟩ := ctsR_ok h
        simp only at b
        have hc : rightC pl c = true := by
          cases e : rightC pl c
          · exact absurd (.inl e) h1
          · rfl
        refine ⟨fun x hx => ?_,?_⟩
        · rcases List.mem_cons.1 hx with rfl | hx
          · exact hc
          · exact a x hx
        · cases p with
          | none => exact b
          | some q =>
            simp only [Option.elim] at h2
            have hq : ltC q c = true := by rw [← ahead_lt];simpa using h2
            refine List.pairwise_cons.2 ⟨fun y hy => ?_,b⟩
            rcases List.mem_cons.1 hy with rfl | hy
            · exact hq
            · have := (List.pairwise_cons.1 b).1 y hy
              rw [ltC_iff] at *;omega
theorem ctsN_ok {pl : List Nd} {l : List Ct} (h : ctsN pl l = 0) : l.length≤200∧(∀ x∈l,rightC pl x = true)∧l.Pairwise (fun x y => ltC x y = true) := by
  unfold ctsN at h
  split at h
  · unfold ctsF at h
    split at h
    · cases h
    · exact ⟨by omega,ctsR_ok (p:=none) h⟩
  · rename_i h1;exact absurd h h1
theorem l_adI (pl : List Nd) (l m : List Ct) (hp : pl.length < 2000000) (hm : m.length≤200) : ∀ i : Nat,(i≤m.length)→∀ s,normE 3 (some [0,1,2,6,23,24,25]) s = ⟨[(0,.lst false 0 (nds false 0 pl)),(1,.lst false 0 (cts l)),(2,.lst false 0 (cts m)),(6,.ptr 3 0 []),(23,.lst false 0 (cts m)),(24,.int .i64 m.length),(25,.int .i64 i)],[(3,⟨true,false,2,[.agg [.int .i64 0,.lst true 3 []]],0⟩)],4⟩ →
 oc.loop 12 7 s = some (if badR pl (m.drop i) = true then (.ret,⟨[(1,.lst false 0 (cts l)),(2,.lst false 0 (cts m)),(6,.ptr 3 0 [])],[(3,⟨true,false,2,[.agg [.int .i64 3,.lst true 3 []]],0⟩)],4⟩) else (.exit 0,⟨[(1,.lst false 0 (cts l)),(2,.lst false 0 (cts m)),(6,.ptr 3 0 [])],[(3,⟨true,false,2,[.agg [.int .i64 0,.lst true 3 []]],0⟩)],4⟩)) := by
 refine loop_ind (σ:=Nat) (fun i => m.length - i) _ (fun i => ⟨[(0,.lst false 0 (nds false 0 pl)),(1,.lst false 0 (cts l)),(2,.lst false 0 (cts m)),(6,.ptr 3 0 []),(23,.lst false 0 (cts m)),(24,.int .i64 m.length),(25,.int .i64 i)],[(3,⟨true,false,2,[.agg [.int .i64 0,.lst true 3 []]],0⟩)],4⟩) _ ?_
 intro i hi ih s hs
 refine loop_s cd12 rfl rfl hs ?_
 refine wa_ (wc_region (w_ (b_ (h:=wo_nil (e_ (h:=aft_normal (wa_ (?_))))))))
 refine c_ (h1:=?_) (h2:=?_)
 rotate_right 1
 focus
  intro c1
  first
  | exact dn c1
  | (
   have d1 := c1;try simp at d1
   refine wc_exit (?_)
   )
 rotate_right 1
 focus
  intro c1
  first
  | exact dn c1
  | (
   have d1 := c1;try simp at d1
   have hj : i < m.length := (by simp at c1;omega);have hw := wrap_succ (i:=i) (by omega);obtain ⟨c,hx,e1,g1⟩ := cts_cut (l:=m) (i:=i) (by omega)
   refine wc_skip (?_)
   )
 all_goals first
 | refine aft_exit ?_
 | (
  refine aft_normal ?_
  refine wa_ (wc_block (wa_ (wc_region (w_ (x_ (h:=w_ (l_ (h:=w_ (al (h:=w0 (s_ (h:=wo_nil (e_ (h:=aft_normal (wa_ (wc_region (?_)))))))))))))))))
  refine w_ (m_ (h:=w_ (l_ (h:=w_ (ca (hc:=e_isCount pl c hp) (h:=w_ (u_ (h:=wo_nil (e_ (h:=aft_normal (?_)))))))))))
  refine c_ (h1:=?_) (h2:=?_)
  rotate_right 1
  focus
   intro c2
   first
   | exact dn c2
   | (
    have d2 := c2;try simp at d2
    refine wc_skip (?_)
    )
  rotate_right 1
  focus
   intro c2
   first
   | exact dn c2
   | (
    have d2 := c2;try simp at d2
    refine wa_ (wc_region (w_ (bd (h:=w0 (s_ (h:=wo_nil (e_ (h:=aft_normal (wc_ret (?_))))))))))
    )
  all_goals first | refine blk_normal ?_ | refine blk_ret ?_
  all_goals first
  | refine aft_ret ?_
  | (
   refine aft_normal ?_
   refine wc_region (w_ (b_ (h:=w_ (m_ (h:=wo_nil (e_ (h:=?_)))))))
   )
  )
 all_goals first
 | (apply end_leaf (ex:=(Ext.exit 0)) 3 (some [1,2,6]);(focus (simp [normE];rfl));(focus (rw [List.drop_eq_nil_of_le (by simp at c1;omega)];rfl)))
 | (apply end_leaf (ex:=Ext.ret) 3 (some [1,2,6]);(focus (simp [normE];rfl));(focus (rw [e1,badR_t (by simpa using d2)];rfl)))
 | (refine (ih (i + 1) (by omega) ?_ _ ?_).trans ?_;(focus (first | omega | (simp;done) | (simp;omega)));(focus (simp [normE,hw];done));(focus (rw [e1,badR_f (by simpa using d2)])))
theorem l_adS (pl : List Nd) (l m : List Ct) (hp : pl.length < 2000000) (hm : m.length≤200) : ∀ i : Nat,(i≤m.length)→∀ s,normE 3 (some [0,1,2,6,8]) s = ⟨[(0,.lst false 0 (nds false 0 pl)),(1,.lst false 0 (cts l)),(2,.lst false 0 (cts m)),(6,.ptr 3 0 []),(8,.int .i64 i)],[(3,⟨true,false,2,[.agg [.int .i64 0,.lst true 3 []]],0⟩)],4⟩ →
 oc.loop 13 7 s = some (if badR pl (m.drop i) = true then (.ret,⟨[(1,.lst false 0 (cts l)),(2,.lst false 0 (cts m)),(6,.ptr 3 0 [])],[(3,⟨true,false,2,[.agg [.int .i64 3,.lst true 3 []]],0⟩)],4⟩) else (.exit 0,⟨[(1,.lst false 0 (cts l)),(2,.lst false 0 (cts m)),(6,.ptr 3 0 [])],[(3,⟨true,false,2,[.agg [.int .i64 0,.lst true 3 []]],0⟩)],4⟩)) := by
 refine loop_ind (σ:=Nat) (fun i => m.length - i) _ (fun i => ⟨[(0,.lst false 0 (nds false 0 pl)),(1,.lst false 0 (cts l)),(2,.lst false 0 (cts m)),(6,.ptr 3 0 []),(8,.int .i64 i)],[(3,⟨true,false,2,[.agg [.int .i64 0,.lst true 3 []]],0⟩)],4⟩) _ ?_
 intro i hi ih s hs
 refine loop_s cd13 rfl rfl hs ?_
 refine wa_ (wa_ (wc_region (w_ (m_ (h:=w_ (m_ (h:=w_ (le (h:=w_ (b_ (h:=wo_nil (e_ (h:=aft_normal (?_))))))))))))))
 refine c_ (h1:=?_) (h2:=?_)
 rotate_right 1
 focus
  intro c1
  first
  | exact dn c1
  | (
   have d1 := c1;try simp at d1
   refine wc_exit (?_)
   )
 rotate_right 1
 focus
  intro c1
  first
  | exact dn c1
  | (
   have d1 := c1;try simp at d1
   have hj : i < m.length := (by simp at c1;omega);have hw := wrap_succ (i:=i) (by omega);obtain ⟨c,hx,e1,g1⟩ := cts_cut (l:=m) (i:=i) (by omega)
   refine wc_skip (?_)
   )
 all_goals first
 | refine aft_exit ?_
 | (
  refine aft_normal ?_
  refine wa_ (wc_block (wa_ (wc_region (w_ (m_ (h:=w_ (m_ (h:=w_ (m_ (h:=w_ (x_ (h:=w_ (l_ (h:=w_ (ca (hc:=e_l7Right pl c hp) (h:=w_ (u_ (h:=wo_nil (e_ (h:=?_))))))))))))))))))))
  refine aft_normal (?_)
  refine c_ (h1:=?_) (h2:=?_)
  rotate_right 1
  focus
   intro c2
   first
   | exact dn c2
   | (
    have d2 := c2;try simp at d2
    refine wc_skip (?_)
    )
  rotate_right 1
  focus
   intro c2
   first
   | exact dn c2
   | (
    have d2 := c2;try simp at d2
    refine wa_ (wc_region (w_ (bd (h:=w0 (s_ (h:=wo_nil (e_ (h:=aft_normal (wc_ret (?_))))))))))
    )
  all_goals first | refine blk_normal ?_ | refine blk_ret ?_
  all_goals first
  | refine aft_ret ?_
  | (
   refine aft_normal ?_
   refine wc_region (w_ (m_ (h:=w_ (b_ (h:=w_ (a_ (h:=wo_nil (e_ (h:=?_)))))))))
   )
  )
 all_goals first
 | (apply end_leaf (ex:=(Ext.exit 0)) 3 (some [1,2,6]);(focus (simp [normE];rfl));(focus (rw [List.drop_eq_nil_of_le (by simp at c1;omega)];rfl)))
 | (apply end_leaf (ex:=Ext.ret) 3 (some [1,2,6]);(focus (simp [normE];rfl));(focus (rw [e1,badR_t (by simpa using d2)];rfl)))
 | (refine (ih (i + 1) (by omega) ?_ _ ?_).trans ?_;(focus (first | omega | (simp;done) | (simp;omega)));(focus (simp [normE,hw];done));(focus (rw [e1,badR_f (by simpa using d2)])))
theorem e_adI (pl : List Nd) (l m : List Ct) (hp : pl.length < 2000000) (hk : okN pl) : oc.call 12 [.lst false 0 (nds false 0 pl),.lst false 0 (cts l),.lst false 0 (cts m)] = some (.agg [.int .i64 (adN pl l m).1,.lst true 3 (cts (adN pl l m).2)],[]) := by
 refine fun_s rfl cd12 rfl rfl rfl (by simp;rfl) (by simp;rfl) ?_
 refine wa_ (wc_region (w_ (al (h:=wo_nil (e_ (h:=aft_normal (wa_ (wa_ (wc_region (w_ (m_ (h:=w_ (m_ (h:=w_ (ca (hc:=e_ctsFI pl l hp hk) (h:=w_ (a_ (h:=?_))))))))))))))))))
 refine wo_nil (e_ (h:=aft_normal (wa_ (wc_region (w_ (m_ (h:=w_ (bE (h:=wo_nil (e_ (h:=aft_normal (?_))))))))))))
 refine c_ (h1:=?_) (h2:=?_)
 rotate_right 1
 focus
  intro c1
  first
  | exact dn c1
  | (
   have d1 := c1;try simp at d1
   have k0 : ctsN pl l = 0 := (by simpa using d1);obtain ⟨k1,k2,k3⟩ := ctsN_ok k0
   refine wc_skip (?_)
   )
 rotate_right 1
 focus
  intro c1
  first
  | exact dn c1
  | (
   have d1 := c1;try simp at d1
   refine wa_ (wc_region (w_ (m_ (h:=w_ (bd (h:=w0 (s_ (h:=wo_nil (e_ (h:=aft_normal (wc_ret (?_))))))))))))
   )
 all_goals first
 | refine aft_ret ?_
 | (
  refine aft_normal ?_
  refine wa_ (wa_ (wc_region (w_ (m_ (h:=w_ (le (h:=w_ (b_ (h:=wo_nil (e_ (h:=aft_normal (?_))))))))))))
  refine c_ (h1:=?_) (h2:=?_)
  rotate_right 1
  focus
   intro c2
   first
   | exact dn c2
   | (
    have d2 := c2;try simp at d2
    have km : m.length≤200 := (by first | omega | (simp at d2;omega));have hl7 := l_adI pl l m hp km 0 (by omega)
    refine wc_skip (?_)
    )
  rotate_right 1
  focus
   intro c2
   first
   | exact dn c2
   | (
    have d2 := c2;try simp at d2
    refine wa_ (wc_region (w_ (bd (h:=w0 (s_ (h:=wo_nil (e_ (h:=aft_normal (wc_ret (?_))))))))))
    )
  all_goals first
  | refine aft_ret ?_
  | (
   refine aft_normal ?_
   refine wa_ (wa_ (wc_region (w_ (m_ (h:=w_ (le (h:=w_ (m_ (h:=wo_nil (e_ (h:=aft_normal (wc_block (?_)))))))))))))
   refine wc_loopI (hl7 _ (by simp [normE])) ?_ ?_
   rotate_right 1
   focus
    intro c3
    first
    | exact dn c3
    | (
     have d3 := c3;try simp at d3
     have k4 := badR_mem (pl:=pl) (l:=m) (by simpa using d3)
     skip
     )
   rotate_right 1
   focus
    intro c3
    first
    | exact dn c3
    | (
     have d3 := c3;try simp at d3
     skip
     )
   all_goals first | refine blk_ret ?_ | refine blk_exit ?_
   all_goals first
   | refine aft_ret ?_
   | (
    refine aft_normal ?_
    refine wa_ (wc_region (w_ (m_ (h:=w_ (m_ (h:=w_ (ca (hc:=e_addC l m (by omega) (by omega) k3 (fun x hx => w64_in (rightC_n (by rcases List.mem_append.1 hx with h | h;exact k2 x h;exact k4 x h)))) (h:=w_ (m_ (h:=w_ (ex (h:=w_ (ex (h:=w_ (a_ (h:=w_ (a_ (h:=wo_nil (e_ (h:=aft_normal (?_)))))))))))))))))))))
    refine wa_ (wc_region (w_ (m_ (h:=w_ (m_ (h:=w_ (bd (h:=w0 (s_ (h:=wo_nil (e_ (h:=aft_normal (wc_ret (?_))))))))))))))
    )
   )
  )
 all_goals (refine fin_ (hr:=(res_cell (tys_ok.zero _ _ rfl) rfl (by simp;rfl) (by rfl) res_nil)) (h:=?_);(focus (unfold adN;first | (simp [*];done) | (rw [if_pos k0,if_pos (by omega)];simp;done) | (rw [if_pos k0,if_neg (by omega),if_pos (by assumption)];simp;done) | (rw [if_pos k0,if_neg (by omega),if_neg (by simpa using d3)];simp;done))))
theorem e_adS (pl : List Nd) (l m : List Ct) (hp : pl.length < 2000000) (hk : okN pl) : oc.call 13 [.lst false 0 (nds false 0 pl),.lst false 0 (cts l),.lst false 0 (cts m)] = some (.agg [.int .i64 (adN pl l m).1,.lst true 3 (cts (adN pl l m).2)],[]) := by
 refine fun_s rfl cd13 rfl rfl rfl (by simp;rfl) (by simp;rfl) ?_
 refine wa_ (wc_region (w_ (al (h:=wo_nil (e_ (h:=aft_normal (wa_ (wa_ (wc_region (w_ (m_ (h:=w_ (m_ (h:=w_ (ca (hc:=e_ctsFS pl l hp hk) (h:=w_ (a_ (h:=?_))))))))))))))))))
 refine wo_nil (e_ (h:=aft_normal (wa_ (wc_region (w_ (m_ (h:=w_ (bE (h:=wo_nil (e_ (h:=aft_normal (?_))))))))))))
 refine c_ (h1:=?_) (h2:=?_)
 rotate_right 1
 focus
  intro c1
  first
  | exact dn c1
  | (
   have d1 := c1;try simp at d1
   have k0 : ctsN pl l = 0 := (by simpa using d1);obtain ⟨k1,k2,k3⟩ := ctsN_ok k0
   refine wc_skip (?_)
   )
 rotate_right 1
 focus
  intro c1
  first
  | exact dn c1
  | (
   have d1 := c1;try simp at d1
   refine wa_ (wc_region (w_ (m_ (h:=w_ (bd (h:=w0 (s_ (h:=wo_nil (e_ (h:=aft_normal (wc_ret (?_))))))))))))
   )
 all_goals first
 | refine aft_ret ?_
 | (
  refine aft_normal ?_
  refine wa_ (wa_ (wc_region (w_ (m_ (h:=w_ (le (h:=w_ (b_ (h:=wo_nil (e_ (h:=aft_normal (?_))))))))))))
  refine c_ (h1:=?_) (h2:=?_)
  rotate_right 1
  focus
   intro c2
   first
   | exact dn c2
   | (
    have d2 := c2;try simp at d2
    have km : m.length≤200 := (by first | omega | (simp at d2;omega));have hl7 := l_adS pl l m hp km 0 (by omega)
    refine wc_skip (?_)
    )
  rotate_right 1
  focus
   intro c2
   first
   | exact dn c2
   | (
    have d2 := c2;try simp at d2
    refine wa_ (wc_region (w_ (bd (h:=w0 (s_ (h:=wo_nil (e_ (h:=aft_normal (wc_ret (?_))))))))))
    )
  all_goals first
  | refine aft_ret ?_
  | (
   refine aft_normal ?_
   refine wa_ (wa_ (wc_region (w_ (a_ (h:=wo_nil (e_ (h:=aft_normal (wc_block (?_)))))))))
   refine wc_loopI (hl7 _ (by simp [normE])) ?_ ?_
   rotate_right 1
   focus
    intro c3
    first
    | exact dn c3
    | (
     have d3 := c3;try simp at d3
     skip
     )
   rotate_right 1
   focus
    intro c3
    first
    | exact dn c3
    | (
     have d3 := c3;try simp at d3
     skip
     )
   all_goals first | refine blk_ret ?_ | refine blk_exit ?_
   all_goals first
   | refine aft_ret ?_
   | (
    refine aft_normal ?_
    refine wa_ (wc_region (w_ (m_ (h:=w_ (m_ (h:=w_ (ca (hc:=e_l7Add l m (by omega) (by omega)) (h:=w_ (m_ (h:=w_ (ex (h:=w_ (ex (h:=w_ (a_ (h:=w_ (a_ (h:=wo_nil (e_ (h:=aft_normal (?_)))))))))))))))))))))
    refine wa_ (wc_region (w_ (m_ (h:=w_ (m_ (h:=w_ (bd (h:=w0 (s_ (h:=wo_nil (e_ (h:=aft_normal (wc_ret (?_))))))))))))))
    )
   )
  )
 all_goals (refine fin_ (hr:=(res_cell (tys_ok.zero _ _ rfl) rfl (by simp;rfl) (by rfl) res_nil)) (h:=?_);(focus (unfold adN;first | (simp [*];done) | (rw [if_pos k0,if_pos (by omega)];simp;done) | (rw [if_pos k0,if_neg (by omega),if_pos (by assumption)];simp;done) | (rw [if_pos k0,if_neg (by omega),if_neg (by simpa using d3)];simp;done))))
theorem putC_q {Q : Int→Int→Prop} {c : Ct} (hc : Q c.pl c.ep) : ∀ {l : List Ct},(∀ x∈l,Q x.pl x.ep)→∀ x∈putC l c,Q x.pl x.ep
  | [],_,x,hx => by simp [putC] at hx;subst hx;exact hc
  | y :: r,h,x,hx => by
    have h1 := h y (List.mem_cons_self ..)
    have ih := putC_q (Q:=Q) (c:=c) hc (l:=r) (fun z hz => h z (List.mem_cons_of_mem _ hz))
    rw [putC_cons] at hx
    split at hx
    · rcases List.mem_cons.1 hx with rfl | hx
      · exact h1
      · exact ih x hx
    · split at hx
      · rcases List.mem_cons.1 hx with rfl | hx
        · exact hc
        · exact h x hx
      · rcases List.mem_cons.1 hx with rfl | hx
        · exact h1
        · exact h x (List.mem_cons_of_mem _ hx)
theorem putF_q {Q : Int→Int→Prop} : ∀ {m l : List Ct},(∀ x∈m,Q x.pl x.ep)→(∀ x∈l,Q x.pl x.ep)→∀ x∈m.foldl putC l,Q x.pl x.ep
  | [],l,_,h => h
  | c :: m,l,hm,h => putF_q (m:=m) (l:=putC l c) (fun x hx => hm x (List.mem_cons_of_mem _ hx)) (putC_q (Q:=Q) (hm c (List.mem_cons_self ..)) h)
theorem putC_srt {c : Ct} : ∀ {l : List Ct},l.Pairwise (fun x y => ltC x y = true)→(putC l c).Pairwise (fun x y => ltC x y = true)
  | [],_ => by simp [putC]
  | y :: r,h => by
    obtain ⟨h1,h2⟩ := List.pairwise_cons.1 h
    rw [putC_cons]
    split
    · rename_i hy
      refine List.pairwise_cons.2 ⟨?_,putC_srt h2⟩
      have := putC_q (Q:=fun a b => y.pl < a∨y.pl = a∧y.ep < b) (c:=c) (by rw [ltC_iff] at hy;exact hy) (l:=r) (fun z hz => by have := h1 z hz;rw [ltC_iff] at this;exact this)
      intro z hz
      rw [ltC_iff];exact this z hz
    · split
      · rename_i hn hc
        refine List.pairwise_cons.2 ⟨fun z hz => ?_,h⟩
        rcases List.mem_cons.1 hz with rfl | hz
        · exact hc
        · have := h1 z hz
          rw [ltC_iff] at *;omega
      · refine List.pairwise_cons.2 ⟨fun z hz => ?_,h2⟩
        have := h1 z hz
        rw [ltC_iff] at *;exact this
theorem putF_srt : ∀ {m l : List Ct},l.Pairwise (fun x y => ltC x y = true)→(m.foldl putC l).Pairwise (fun x y => ltC x y = true)
  | [],_,h => h
  | _ :: m,_,h => putF_srt (m:=m) (putC_srt h)
theorem ctsR_mk {pl : List Nd} : ∀ {l : List Ct} {p : Option Ct},(∀ x∈l,rightC pl x = true∧x.n ≠ 0)→l.Pairwise (fun x y => ltC x y = true)→(∀ q,p = some q→∀ x∈l,ltC q x = true)→ctsR pl p l = 0
  | [],_,_,_,_ => rfl
  | c :: r,p,h,h2,h3 => by
    obtain ⟨a,b⟩ := List.pairwise_cons.1 h2
    obtain ⟨c1,c2⟩ := h c (List.mem_cons_self ..)
    rw [ctsR_0 (by simp [c1,c2])]
    · exact ctsR_mk (fun x hx => h x (List.mem_cons_of_mem _ hx)) b (fun q hq x hx => by cases hq;exact a x hx)
    · cases p with
      | none => simp
      | some q => simp [ahead_lt,h3 q rfl c (List.mem_cons_self ..)]
theorem adN_right {pl : List Nd} {l m : List Ct} (h : (adN pl l m).1 = 0) : ctsN pl l = 0∧badR pl m = false∧(adN pl l m).2 = (m.foldl putC l).filter isUC∧(m.foldl putC l).any badW = false∧ctsN pl (adN pl l m).2 = 0 := by
  have h0 : ctsN pl l = 0 := by
    by_cases h0 : ctsN pl l = 0
    · exact h0
    · unfold adN at h;rw [if_neg h0] at h;exact absurd h h0
  obtain ⟨k1,k2,k3⟩ := ctsN_ok h0
  unfold adN at h ⊢
  rw [if_pos h0] at h ⊢
  split at h
  · cases h
  · rename_i hm
    split at h
    · cases h
    · rename_i hb
      have hb' : badR pl m = false := by simpa using hb
      rw [if_neg hm,if_neg hb]
      simp only at h ⊢
      unfold addS at h ⊢
      split at h
      · cases h
      · rename_i h5
        have h5' : (m.foldl putC l).any badW = false := by simpa using h5
        rw [if_neg h5]
        split at h
        · cases h
        · rename_i h6
          rw [if_neg h6]
          refine ⟨h0,hb',rfl,h5',?_⟩
          unfold ctsN
          rw [if_pos (ctsN_zero h0).1]
          unfold ctsF
          rw [if_neg h6]
          have hq := putF_q (Q:=fun a b => isPl pl a = true∧inI b 0 1000 = true) (m:=m) (l:=l) (fun x hx => by have := badR_mem hb' x hx;simp [rightC] at this;exact ⟨this.1,this.2.1⟩) (fun x hx => by have := k2 x hx;simp [rightC] at this;exact ⟨this.1,this.2.1⟩)
          refine ctsR_mk (fun x hx => ?_) ((putF_srt k3).sublist List.filter_sublist) (fun q hq => by cases hq)
          obtain ⟨hx1,hx2⟩ := List.mem_filter.1 hx
          have hw : badW x = false := by
            rw [List.any_eq_false] at h5'
            simpa using h5' x hx1
          have hw2 : inI x.n (-1000000000000) 1000000000000 = true := by simpa [badW,okW] using hw
          refine ⟨?_,by simpa [isUC] using hx2⟩
          have := hq x hx1
          simp only [rightC,this.1,this.2,Bool.true_and]
          exact hw2
theorem frF_lt {P : Ct→Bool} {ep : Int} : ∀ {l : List Ct} {o : Option Int},((frF P l o).elim true fun e => decide (ep < e)) = true↔(o.elim true fun e => decide (ep < e)) = true∧∀ c∈l,P c = true→ep < c.ep
  | [],o => by simp [frF]
  | c :: r,o => by
    rw [frF,frF_lt]
    cases hP : P c with
    | false => simp [hP]
    | true =>
      cases o with
      | none => simp [hP]
      | some e =>
        by_cases he : c.ep < e
        · simp [he,hP];omega
        · simp [he,hP];omega
theorem pastN_iff {pl : List Nd} {l : List Ct} {to ep : Int} : pastN pl l to ep = true↔∀ c∈l,brings pl to c = true→ep < c.ep := by
  unfold pastN frN;rw [frF_lt];simp
theorem pastN_less {pl : List Nd} {l : List Ct} {to ep : Int} (h : pastN pl l to ep = true) : pastN pl l to (ep - 1) = true := by
  rw [pastN_iff] at *
  intro c hc hb
  have := h c hc hb;omega
theorem putC_more {pl : List Nd} {l : List Ct} {c : Ct} {to : Int} (hc : 0 < c.n∧c.n≤4) (hl : ∀ x∈l,rightC pl x = true) : ∀ d∈l,brings pl to d = true→∃ d'∈putC l c,d'.pl = d.pl∧d'.ep = d.ep∧0 < d'.n := by
  induction l with
  | nil => intro d hd;cases hd
  | cons y r ih =>
    intro d hd hb
    have hy := rightC_n (hl y (List.mem_cons_self ..))
    have hdn : 0 < d.n := by simp [brings] at hb;exact hb.1
    rw [putC_cons]
    split
    · rcases List.mem_cons.1 hd with rfl | hd
      · exact ⟨d,List.mem_cons_self ..,rfl,rfl,hdn⟩
      · obtain ⟨d',h1,h2⟩ := ih (fun x hx => hl x (List.mem_cons_of_mem _ hx)) d hd hb
        exact ⟨d',List.mem_cons_of_mem _ h1,h2⟩
    · split
      · exact ⟨d,List.mem_cons_of_mem _ hd,rfl,rfl,hdn⟩
      · rcases List.mem_cons.1 hd with rfl | hd
        · refine ⟨addN d c,List.mem_cons_self ..,rfl,rfl,?_⟩
          have : IntKind.i64.wrap (d.n + c.n) = d.n + c.n := wrap_id (by omega) (by omega)
          show 0 < IntKind.i64.wrap (d.n + c.n)
          omega
        · exact ⟨d,List.mem_cons_of_mem _ hd,rfl,rfl,hdn⟩
theorem past_back {pl : List Nd} {l : List Ct} {c : Ct} {to ep : Int} (hc : 0 < c.n∧c.n≤4) (h : (adN pl l [c]).1 = 0) (hp : pastN pl (adN pl l [c]).2 to ep = true) : pastN pl l to ep = true := by
  obtain ⟨h1,h2,h3,h4,h5⟩ := adN_right h
  rw [h3] at hp
  rw [pastN_iff] at *
  intro d hd hb
  obtain ⟨d',m1,m2,m3,m4⟩ := putC_more (to:=to) hc (ctsN_ok h1).2.1 d hd hb
  have := hp d' (List.mem_filter.2 ⟨m1,by simp [isUC];omega⟩) (by simp only [brings,Bool.and_eq_true,decide_eq_true_eq] at hb ⊢;rw [m2];exact ⟨m4,hb.2⟩)
  omega
end Go.Proofs.Ytbcgenkegnmkhaa.Ev
namespace Go.Proofs.Ytbcgenkegnmkhaa.Ev
open Go
set_option maxRecDepth 100000
set_option linter.unusedSimpArgs false
set_option linter.unusedVariables false
set_option maxHeartbeats 2000000
def bys (c : List Int) : List V := c.map fun x => V.int .u8 x
@[simp] theorem bys_len (c : List Int) : (bys c).length = c.length := by simp [bys]
@[simp] theorem bys_shareL (c : List Int) : V.shareL (bys c) = bys c := by
  induction c with
  | nil => rfl
  | cons x c ih => simp only [bys,List.map_cons,V.shareL,V.share] at ih ⊢;rw [ih]
def srcV (c : List Int) (a : Nat) : V := .agg [.lst false 0 (bys c),.int .i64 a]
@[simp] theorem srcV_cells (c : List Int) (a : Nat) : (srcV c a).cells = 2 := rfl
@[simp] theorem srcV_mention (c : List Int) (a : Nat) : V.mention (srcV c a) = [] := rfl
@[simp] theorem srcV_ren (c : List Int) (a : Nat) (ρ : Nat→Option Nat) (vr : Nat→Nat) : V.ren ρ vr (srcV c a) = srcV c a := rfl
@[simp] theorem srcV_fzI (c : List Int) (a : Nat) (s : St) : V.fzI (srcV c a) s = some (srcV c a,s) := by simp [srcV,V.fzI,V.fzIL,V.fz,mp]
def okS (c : List Int) : Prop := c.length≤1048576∧∀ x∈c,0≤x∧x < 256
section
variable {call : Call} {id base : Nat} {e : List (Nat × V)} {o : List (Nat × Ob)} {n : Nat} {t : TypeId} {K : V→List (Nat × Ob)→Prop}
theorem cP {args : Array Operand} {ts : Array TypeId} {fo : Operand} {f : FuncId} {q a a' id' : Nat} {c : List Int} {vs asv : List V} {ob : Ob} {o1 o2 : List (Nat × Ob)} {rv v : V} {sr : Option (List V)} (hx : opsV e args.toList = some (.ptr q 0 [] :: vs) := by exact rfl) (hf : opV e fo = some (.clo f []) := by exact rfl) (hB : cf.inB f = false := by (rw [cf_in];rfl)) (hmd : cf.md f = [.io] := by (rw [cf_md];rfl)) (ho : geta o q = some ob := by exact rfl) (hb : ob.bx = true := by rfl) (hfx : ob.fx = false := by rfl) (hxs : ob.xs = [srcV c a] := by rfl)
    (hd : dela o q = o1 := by (simp;rfl)) (hlv : ∀ s : St,lendV [] vs s = some (vs,s,[]) := by intro s;rfl) (hs : snapsV ⟨[],o1,n⟩ [] vs = sr := by (simp;rfl)) (hsr : sr = some asv := by first | rfl | (simp [*] <;> fail)) (hc : call f (.iop (srcV c a) :: asv) = some (rv,[srcV c a'])) (hid : id = id' := by ((try simp);rfl))
    (hw : ((plainM [.io] (.ptr q 0 [] :: vs)).isEmpty = true∨rv.tidy = true∧V.tidyL ([srcV c a'] : List V) = true)∧(rv.thaw id').2.2≤id' + 32 := by (simp [plainM,V.mention,V.mentionL])) (hv : (rv.thaw id').1 = v := by (simp;rfl)) (ho2 : (rv.thaw id').2.1 ++ ((q,⟨true,ob.fx,ob.sz,[srcV c a'],ob.ver + 1⟩) :: o1) = o2 := by (simp;rfl))
    (h : K v o2) : opK call cf id base e o n t (.call ⟨.value fo,args,ts⟩) K := by
  subst hd hid hv ho2
  rw [← hs] at hsr
  refine k_call hx hf hB rfl (bs:=.iop (srcV c a) :: vs) (s1:=⟨e,dela o q,n⟩) (lent:=[(q,ob)]) (asv:=.iop (srcV c a) :: asv) (ro:=[srcV c a']) (s2:=⟨e,(q,⟨true,ob.fx,ob.sz,[srcV c a'],ob.ver + 1⟩) :: dela o q,n⟩) ?_ ?_ hc rfl ?_ ?_ rfl h
  · rw [hmd,List.append_nil]
    simp only [lendV,lendOne,List.headD_cons,List.tail_cons,ho,hxs,hb,hfx,if_true,and_self,List.isEmpty_nil,hlv,List.append_nil,srcV,V.fzI,V.fzIL,V.fz,mp_some]
  · rw [hmd]
    have := snaps_re e ⟨[],dela o q,n⟩ [] vs
    rw [hsr] at this
    simp only [snapsV,List.headD_cons,List.tail_cons,mp]
    rw [show snapsV ⟨e,dela o q,n⟩ [] vs = some asv from this]
    rfl
  · rw [hmd,List.append_nil]
    exact hw
  · simp only [backs,backOne,hb,hxs,if_true,puta,srcV]
    rfl
theorem cPT {args : Array Operand} {ts : Array TypeId} {fo : Operand} {f : FuncId} {q q2 m a a' : Nat} {c : List Int} {ob ob2 : Ob} {o1 : List (Nat × Ob)} {k : IntKind} {r : Int} (hx : opsV e args.toList = some [.ptr q 0 [],.ref q2 0 m] := by exact rfl) (hf : opV e fo = some (.clo f []) := by exact rfl) (hB : cf.inB f = false := by (rw [cf_in];rfl)) (hmd : cf.md f = [.io,.take] := by (rw [cf_md];rfl)) (ho : geta o q = some ob := by exact rfl) (hb : ob.bx = true := by rfl) (hfx : ob.fx = false := by rfl) (hxs : ob.xs = [srcV c a] := by rfl)
    (h2 : geta (dela o q) q2 = some ob2 := by (simp;rfl)) (hb2 : ob2.bx = false := by rfl) (hf2 : ob2.fx = false := by rfl) (hm : m = ob2.xs.length := by first | rfl | simp) (hd : dela (dela o q) q2 = o1 := by (simp;rfl)) (hc : call f [.iop (srcV c a),.lst true ob2.sz ob2.xs] = some (.int k r,[srcV c a']))
    (h : K (.int k r) ((q,⟨true,ob.fx,ob.sz,[srcV c a'],ob.ver + 1⟩) :: o1)) : opK call cf id base e o n t (.call ⟨.value fo,args,ts⟩) K := by
  subst hd hm
  have hg : St.give ⟨e,dela o q,n⟩ q2 0 ob2.xs.length = some (ob2.sz,ob2.xs,⟨e,dela (dela o q) q2,n⟩) := by
    simp only [St.give,h2,hb2,hf2,Nat.zero_add,Nat.le_refl,and_self,if_true,List.drop_zero,List.take_length]
  have hz : V.fz (.ref q2 0 ob2.xs.length) ⟨e,dela o q,n⟩ = some (.lst true ob2.sz ob2.xs,⟨e,dela (dela o q) q2,n⟩) := by
    simp only [V.fz,hg,mp_some]
  refine k_call hx hf hB rfl (bs:=[.iop (srcV c a),.lst true ob2.sz ob2.xs]) (s1:=⟨e,dela (dela o q) q2,n⟩) (lent:=[(q,ob)]) (asv:=[.iop (srcV c a),.lst true ob2.sz ob2.xs]) (ro:=[srcV c a']) (s2:=⟨e,(q,⟨true,ob.fx,ob.sz,[srcV c a'],ob.ver + 1⟩) :: dela (dela o q) q2,n⟩) ?_ ?_ hc rfl ?_ ?_ rfl h
  · rw [hmd,List.append_nil]
    simp only [lendV,lendOne,List.headD_cons,List.tail_cons,ho,hxs,hb,hfx,if_true,and_self,List.isEmpty_nil,List.append_nil,srcV,V.fzI,V.fzIL,V.fz,hg,mp_some,V.argOk]
  · rw [hmd]
    simp only [snapsV,List.headD_cons,List.tail_cons,mp_some]
  · rw [hmd,List.append_nil]
    exact ⟨.inl rfl,by simp [V.thaw]⟩
  · simp only [backs,backOne,hb,hxs,if_true,puta,srcV]
    rfl
end
def nxtV (c : List Int) (a : Nat) (n : Int) : Int :=
  if n < 1 then 0 else if c.length = 0 then ((a : Int) * 7) % n else
    let v := c.getD (a % c.length) 0 + (a / c.length : Nat) * 37
    (if 200 < n then v * 251 + c.getD ((a + 1) % c.length) 0 * 13 + a else v) % n
theorem nxtV_in {c : List Int} {a : Nat} {n : Int} (h : 1≤n) : 0≤nxtV c a n∧nxtV c a n < n := by
  unfold nxtV
  rw [if_neg (by omega)]
  split
  · exact ⟨Int.emod_nonneg _ (by omega),Int.emod_lt_of_pos _ (by omega)⟩
  · exact ⟨Int.emod_nonneg _ (by omega),Int.emod_lt_of_pos _ (by omega)⟩
theorem getD_in {c : List Int} (h : okS c) {i : Nat} : 0≤c.getD i 0∧c.getD i 0 < 256 := by
  rcases Nat.lt_or_ge i c.length with hi | hi
  · have := h.2 (c[i]) (List.getElem_mem hi)
    simpa [List.getD,hi] using this
  · have : c.getD i 0 = 0 := by simp [List.getD,List.getElem?_eq_none hi]
    omega
theorem bys_get {c : List Int} {i : Nat} (h : i < c.length) : (bys c)[i]? = some (.int .u8 (c.getD i 0)) := by
  simp [bys,h,List.getD]
theorem iv_rem {a b : Nat} {x y : Int} (h1 : x = a) (h2 : y = b) (hb : 0 < b) : intV .rem .i64 x y = some (.int .i64 ((a % b : Nat) : Int)) := by
  subst h1 h2
  simp only [intV,if_neg (show ¬ (b : Int) = 0 by omega)]
  rfl
theorem iv_quo {a b q : Nat} {x y : Int} (h1 : x = a) (h2 : y = b) (hb : 0 < b) (hq : a / b = q) (ha : q < 4000000000000000000) : intV .quo .i64 x y = some (.int .i64 (q : Int)) := by
  subst h1 h2
  simp only [intV,if_neg (show ¬ (b : Int) = 0 by omega)]
  rw [show (a : Int).tdiv b = ((a / b : Nat) : Int) from rfl,hq,wrap_id (by omega) (by omega)]
theorem iv_remI {x n : Int} (h0 : 0≤x) (hn : 0 < n) : intV .rem .i64 x n = some (.int .i64 (x % n)) := by
  simp only [intV,if_neg (show ¬ n = 0 by omega)]
  rw [Int.tmod_eq_emod_of_nonneg h0]
theorem iv_addI {a b c : Int} (h : a + b = c) (h1 : -4000000000000000000≤c) (h2 : c < 4000000000000000000) : intV .add .i64 a b = some (.int .i64 c) := by
  simp only [intV];rw [h,wrap_id (by omega) (by omega)]
theorem iv_mulI {a b c : Int} (h : a * b = c) (h1 : -4000000000000000000≤c) (h2 : c < 4000000000000000000) : intV .mul .i64 a b = some (.int .i64 c) := by
  simp only [intV];rw [h,wrap_id (by omega) (by omega)]
theorem e_next (c : List Int) (a : Nat) (n : Int) (hc : okS c) (ha : a < 1000000000) (hn : n < 4000000000000000000) : oc.call 72 [.iop (srcV c a),.int .i64 n] = some (.int .i64 (nxtV c a n),[srcV c (a + 1)]) := by
 refine fun_s rfl cd72 rfl rfl rfl (by simp;rfl) (by simp;rfl) ?_
 have hc1 := hc.1
 obtain ⟨k,hk⟩ : ∃ k,c.length = k := ⟨_,rfl⟩
 have hB := getD_in hc (i:=a % k)
 have hB2 := getD_in hc (i:=(a + 1) % k)
 obtain ⟨q,hq0⟩ : ∃ q,a / k = q := ⟨_,rfl⟩
 have hq : q≤a := by rw [← hq0];exact Nat.div_le_self ..
 refine wa_ (wc_region (w_ (a_ (h:=wo_nil (e_ (h:=aft_normal (wa_ (wc_region (w_ (m_ (h:=w_ (m_ (h:=w_ (nc (h:=w_ (f_ (h:=w_ (l_ (h:=?_)))))))))))))))))))
 refine w_ (?_)
 refine b_ (hv:=iv_add (c:=a + 1) (by simp) (by omega)) (h:=?_)
 refine w_ (nc (h:=w_ (f_ (h:=w0 (s_ (h:=wo_nil (e_ (h:=aft_normal (wa_ (wa_ (wc_region (w_ (m_ (h:=w_ (b_ (h:=wo_nil (e_ (h:=aft_normal (?_)))))))))))))))))))
 refine c_ (h1:=?_) (h2:=?_)
 rotate_right 1
 focus
  intro c1
  first
  | exact dn c1
  | (
   have d1 := c1;try simp at d1
   refine wc_skip (?_)
   )
 rotate_right 1
 focus
  intro c1
  first
  | exact dn c1
  | (
   have d1 := c1;try simp at d1
   refine wa_ (wc_region (w_ (a_ (h:=wo_nil (e_ (h:=aft_normal (wc_ret (?_))))))))
   )
 all_goals first
 | refine aft_ret ?_
 | (
  refine aft_normal ?_
  refine wa_ (wc_region (w_ (m_ (h:=w_ (nc (h:=w_ (f_ (h:=w_ (l_ (h:=w_ (?_)))))))))))
  refine b_ (hv:=iv_sub (c:=a) (by simp) (by omega)) (h:=?_)
  refine w_ (a_ (h:=wo_nil (e_ (h:=aft_normal (wa_ (wc_region (w_ (m_ (h:=w_ (nc (h:=w_ (f_ (h:=w_ (l_ (h:=w_ (le (h:=w_ (a_ (h:=wo_nil (e_ (h:=?_)))))))))))))))))))))
  refine aft_normal (wa_ (wa_ (wc_region (w_ (m_ (h:=w_ (bE (h:=wo_nil (e_ (h:=aft_normal (?_)))))))))))
  refine c_ (h1:=?_) (h2:=?_)
  rotate_right 1
  focus
   intro c2
   first
   | exact dn c2
   | (
    have d2 := c2;try simp at d2
    have hk0 : 0 < k := (by have := List.length_pos_iff.2 (show c ≠ [] by simpa using c2);omega);have hkn : ¬ k = 0 := (by omega);have hm1 := Nat.mod_lt a hk0;have hm2 := Nat.mod_lt (a + 1) hk0;have g1 : (bys c)[a % k]? = _ := bys_get (by omega);have g2 : (bys c)[(a + 1) % k]? = _ := bys_get (by omega)
    refine wc_skip (?_)
    )
  rotate_right 1
  focus
   intro c2
   first
   | exact dn c2
   | (
    have d2 := c2;try simp at d2
    have hk1 : k = 0 := (by have h0 : c = [] := (by simpa using c2);rw [h0] at hk;exact hk.symm)
    refine wa_ (wc_region (w_ (m_ (h:=w_ (?_)))))
    refine b_ (hv:=iv_mulI (c:=(a : Int) * 7) rfl (by omega) (by omega)) (h:=?_)
    refine w_ (m_ (h:=w_ (?_)))
    refine b_ (hv:=iv_remI (by omega) (by omega)) (h:=?_)
    refine w_ (a_ (h:=wo_nil (e_ (h:=aft_normal (wc_ret (?_))))))
    )
  all_goals first
  | refine aft_ret ?_
  | (
   refine aft_normal ?_
   refine wa_ (wc_draw (y_ (m_ (h:=ax_ (h:=y_ (nc (h:=ax_ (h:=y_ (f_ (h:=ax_ (h:=y_ (l_ (h:=ax_ (h:=y_ (m_ (h:=ax_ (h:=y_ (m_ (h:=ax_ (h:=y_ (?_)))))))))))))))))))))
   refine b_ (hv:=iv_rem (a:=a) (b:=k) rfl (by simp [hk]) hk0) (h:=?_)
   refine ax_ (h:=y_ (x_ (h:=ax_ (h:=y_ (l_ (h:=ax_ (h:=y_ (?_))))))))
   refine cv (h:=?_)
   refine ax_ (h:=y_ (m_ (h:=ax_ (h:=y_ (m_ (h:=ax_ (h:=y_ (?_))))))))
   refine b_ (hv:=iv_quo (a:=a) (b:=k) rfl (by simp [hk]) hk0 hq0 (by omega)) (h:=?_)
   refine ax_ (h:=y_ (?_))
   refine b_ (hv:=iv_mulI (c:=(q : Int) * 37) rfl (by omega) (by omega)) (h:=?_)
   refine ax_ (h:=y_ (?_))
   refine b_ (hv:=iv_addI (c:=c.getD (a % k) 0 + (q : Int) * 37) (by rw [wrap_id (by omega) (by omega)]) (by omega) (by omega)) (h:=?_)
   refine ax_ (h:=y_ (a_ (h:=ax_ (h:=wo_nil (ed (h:=aft_normal (wa_ (wa_ (wc_region (w_ (m_ (h:=w_ (b_ (h:=wo_nil (e_ (h:=aft_normal (?_)))))))))))))))))
   refine c_ (h1:=?_) (h2:=?_)
   rotate_right 1
   focus
    intro c3
    first
    | exact dn c3
    | (
     have d3 := c3;try simp at d3
     refine wc_skip (?_)
     )
   rotate_right 1
   focus
    intro c3
    first
    | exact dn c3
    | (
     have d3 := c3;try simp at d3
     refine wc_draw (y_ (m_ (h:=ax_ (h:=y_ (?_)))))
     refine b_ (hv:=iv_mulI (c:=(c.getD (a % k) 0 + (q : Int) * 37) * 251) rfl (by omega) (by omega)) (h:=?_)
     refine ax_ (h:=y_ (m_ (h:=ax_ (h:=y_ (nc (h:=ax_ (h:=y_ (f_ (h:=ax_ (h:=y_ (l_ (h:=ax_ (h:=y_ (m_ (h:=ax_ (h:=y_ (?_)))))))))))))))))
     refine b_ (hv:=iv_add (c:=a + 1) (by simp) (by omega)) (h:=?_)
     refine ax_ (h:=y_ (m_ (h:=ax_ (h:=y_ (?_)))))
     refine b_ (hv:=iv_rem (a:=a + 1) (b:=k) rfl (by simp [hk]) hk0) (h:=?_)
     refine ax_ (h:=y_ (x_ (h:=ax_ (h:=y_ (l_ (h:=ax_ (h:=y_ (?_))))))))
     refine cv (h:=?_)
     refine ax_ (h:=y_ (?_))
     refine b_ (hv:=iv_mulI (c:=c.getD ((a + 1) % k) 0 * 13) (by rw [wrap_id (by omega) (by omega)]) (by omega) (by omega)) (h:=?_)
     refine ax_ (h:=y_ (?_))
     refine b_ (hv:=iv_addI (c:=(c.getD (a % k) 0 + (q : Int) * 37) * 251 + c.getD ((a + 1) % k) 0 * 13) rfl (by omega) (by omega)) (h:=?_)
     refine ax_ (h:=y_ (m_ (h:=ax_ (h:=y_ (?_)))))
     refine b_ (hv:=iv_addI (c:=(c.getD (a % k) 0 + (q : Int) * 37) * 251 + c.getD ((a + 1) % k) 0 * 13 + (a : Int)) rfl (by omega) (by omega)) (h:=?_)
     refine ax_ (h:=y_ (a_ (h:=ax_ (h:=wo_nil (ed (h:=?_))))))
     )
   all_goals first
   | (
    refine aft_normal ?_
    refine wa_ (wc_region (w_ (m_ (h:=w_ (m_ (h:=w_ (?_)))))))
    refine b_ (hv:=iv_remI (by omega) (by omega)) (h:=?_)
    refine w_ (a_ (h:=wo_nil (e_ (h:=aft_normal (wc_ret (?_))))))
    )
   )
  )
 all_goals (refine fin_ (hr:=(res_tmp rfl res_nil)) (h:=?_);(focus (unfold nxtV;rw [hk,hq0];first | (rw [if_pos (by omega)];simp [srcV];done) | (rw [if_neg (by omega),if_pos hk1];simp [srcV];done) | (rw [if_neg (by omega),if_neg hkn];simp only [];first | (rw [if_pos (by simpa using c3)];simp [srcV];done) | (rw [if_neg (by simpa using c3)];simp [srcV];done)))))
theorem e_pick (c : List Int) (a : Nat) (l : List Int) (hc : okS c) (ha : a < 1000000000) (hl : 0 < l.length) (hl2 : l.length < 1000000) : oc.call 41 [.iop (srcV c a),.lst true 1 (ints l)] = some (.int .i64 (at0 l (nxtV c a l.length)),[srcV c (a + 1)]) := by
 refine fun_s rfl cd41 rfl rfl rfl (by simp;rfl) (by simp;rfl) ?_
 obtain ⟨h1,h2⟩ := nxtV_in (c:=c) (a:=a) (n:=l.length) (by omega)
 have g1 := ints_ix (w:=l) h1 h2
 refine wa_ (wc_region (w_ (a_ (h:=wo_nil (e_ (h:=aft_normal (wa_ (wc_region (w_ (m_ (h:=w_ (m_ (h:=w_ (m_ (h:=w_ (le (h:=w_ (cP (hc:=e_next c a l.length hc ha (by omega)) (h:=?_)))))))))))))))))))
 refine w_ (x_ (h:=w_ (l_ (h:=w_ (a_ (h:=wo_nil (e_ (h:=aft_normal (wc_ret (?_))))))))))
 all_goals (refine fin_ (hr:=(res_tmp rfl res_nil)) (h:=?_);(focus (simp [srcV])))
theorem e_chance (c : List Int) (a : Nat) (n : Int) (hc : okS c) (ha : a < 1000000000) (hn : n < 1000000) : oc.call 40 [.iop (srcV c a),.int .i64 n] = some (.bool (decide (nxtV c a n = 0)),[srcV c (a + 1)]) := by
 refine fun_s rfl cd40 rfl rfl rfl (by simp;rfl) (by simp;rfl) ?_
 refine wa_ (wc_region (w_ (a_ (h:=wo_nil (e_ (h:=aft_normal (wa_ (wc_region (w_ (m_ (h:=w_ (m_ (h:=w_ (cP (hc:=e_next c a n hc ha (by omega)) (h:=w_ (bE (h:=w_ (a_ (h:=?_)))))))))))))))))))
 refine wo_nil (e_ (h:=aft_normal (wc_ret (?_))))
 all_goals (refine fin_ (hr:=(res_tmp rfl res_nil)) (h:=?_);(focus (simp [srcV])))
def cellD (c : List Int) (a : Nat) : Int := at0 [nxtV c a 4,nxtV c (a + 1) 4,nxtV c (a + 2) 4,IntKind.i64.wrap (-nxtV c (a + 3) 5),nxtV c (a + 4) 90000] (nxtV c (a + 5) 5)
def rowD (c : List Int) : Nat→Nat→List Int
  | 0,_ => []
  | n + 1,a => cellD c a :: rowD c n (a + 6)
@[simp] theorem rowD_len (c : List Int) : ∀ (n a : Nat),(rowD c n a).length = n
  | 0,_ => rfl
  | n + 1,a => by simp [rowD,rowD_len c n (a + 6)]
end Go.Proofs.Ytbcgenkegnmkhaa.Ev
namespace Go.Proofs.Ytbcgenkegnmkhaa.Ev
open Go
set_option maxRecDepth 100000
set_option linter.unusedSimpArgs false
set_option linter.unusedVariables false
set_option maxHeartbeats 2000000
theorem loop_sE {Q : Ext × St→Prop} {f k : Nat} {fn : Func} {body full : Code} {s s0 : St} (hf : cf.code f = some fn) (hb : fn.body = some full) (hk : findLoop k full = some body) (hs : normE (fn.params.size + fn.nfree) (keepT f k) s = s0)
    (h : wpC oc cf f body s0 (fun e s' => match e with
      | .normal => ∃ r,oc.loop f k s' = some r∧Q r
      | e => Q (e,normE (fn.params.size + fn.nfree) (outT f k) s'))) : ∃ r,oc.loop f k s = some r∧Q r := by
  obtain ⟨⟨e,s'⟩,h1,h2⟩ := h
  cases e with
  | normal => obtain ⟨r,h3,h4⟩ := h2;exact ⟨r,loop_s hf hb hk hs ⟨(.normal,s'),h1,h3⟩,h4⟩
  | ret => exact ⟨_,loop_s hf hb hk hs ⟨(.ret,s'),h1,rfl⟩,h2⟩
  | exit i => exact ⟨_,loop_s hf hb hk hs ⟨(.exit i,s'),h1,rfl⟩,h2⟩
theorem loop_indE {σ : Type} {f k np : Nat} {keep : Option (List Nat)} (μ : σ→Nat) (P : σ→Prop) (H : σ→St) (R : σ→Ext × St→Prop)
    (step : ∀ x,P x→(∀ y,P y→μ y < μ x→∀ s',normE np keep s' = H y→∃ r,oc.loop f k s' = some r∧R y r)→∀ s,normE np keep s = H x→∃ r,oc.loop f k s = some r∧R x r) :
    ∀ x,P x→∀ s,normE np keep s = H x→∃ r,oc.loop f k s = some r∧R x r := by
  have key : ∀ m x,μ x < m→P x→∀ s,normE np keep s = H x→∃ r,oc.loop f k s = some r∧R x r := by
    intro m
    induction m with
    | zero => intro x h;omega
    | succ m ih => intro x h hp;exact step x hp (fun y hy hm => ih y (by omega) hy)
  intro x
  exact key (μ x + 1) x (by omega)
theorem wc_loopE {fn : FuncId} {b : Code} {s : St} {R : Ext × St→Prop} {Q : Ext→St→Prop} (h : ∃ r,oc.loop fn (keyOf b) s = some r∧R r) (hq : ∀ e s',R (e,s')→Q e s') : wpC oc cf fn (.loop b) s Q := by
  obtain ⟨⟨e,s'⟩,h1,h2⟩ := h
  exact wc_loop h1 (hq e s' h2)
theorem fun_sE {Q : V × List V→Prop} {f : FuncId} {fn : Func} {body : Code} {args : List V} {e : List (Nat × V)} {o : List (Nat × Ob)} {n : Nat} (hn : nilT f = false) (hf : cf.code f = some fn) (hb : fn.body = some body) (hl : args.length = n) (hl2 : n = fn.params.size + fn.nfree) (he : (bindArgs 0 args).1 = e) (ho : (bindArgs 0 args).2 = o)
    (h : wpC oc cf f body ⟨e,o,n⟩ (fun e s => (e = .normal∨e = .ret)∧∃ vs,resL cf s fn.results.toList = some vs∧∃ r,V.fzL vs ⟨[],s.obs,s.nxt⟩ = r∧∃ q,r = some q∧∃ os,outsV 0 args q.2 = some os∧Q (oneV q.1,os))) (hh : hsT f = false := by rfl) : ∃ r,oc.call f args = some r∧Q r := by
  obtain ⟨r,h1,h2,vs,h3,q,h4,u,h5,os,h6,h7⟩ := h
  exact ⟨_,fun_s hn hf hb hl hl2 he ho ⟨r,h1,h2,vs,h3,q,h4,u,h5,os,h6,rfl⟩ hh,h7⟩
theorem fin_E {Q : V × List V→Prop} {e : Ext} {s : St} {fn : Func} {args : List V} {vs : List V} {r : Option (List V × St)} {q : List V × St} {os : List V} (he : e = .normal∨e = .ret := by simp)
    (hr : resL cf s fn.results.toList = some vs)
    (hz : V.fzL vs ⟨[],s.obs,s.nxt⟩ = r := by (simp;rfl)) (hq : r = some q := by rfl) (ho : outsV 0 args q.2 = some os := by (simp;rfl)) (h : Q (oneV q.1,os)) :
    (e = .normal∨e = .ret)∧∃ vs,resL cf s fn.results.toList = some vs∧∃ r,V.fzL vs ⟨[],s.obs,s.nxt⟩ = r∧∃ q,r = some q∧∃ os,outsV 0 args q.2 = some os∧Q (oneV q.1,os) :=
  ⟨he,vs,hr,r,hz,q,hq,os,ho,h⟩
theorem endE {Q : Ext × St→Prop} {ex : Ext} (np : Nat) (out : Option (List Nat)) {s s1 : St} (h1 : normE np out s = s1) (h2 : Q (ex,s1)) : Q (ex,normE np out s) := by subst h1;exact h2
theorem iv_remN {x n : Int} {m : Int} (h0 : 0≤x) (hn : 0 < n) (hx : x < 4000000000000000000) (hm : x % n = m) : intV .rem .i64 x n = some (.int .i64 m) := by
  rw [iv_remI h0 hn,hm]
theorem e_lwAt (c : List Int) (i : Nat) (n : Int) (hb : ∀ x∈c,0≤x∧x < 256) (hl : c.length < 400000000000000) (hi : i < 1000000) (hn : n≤200) : ∃ r,oc.call 15 [.lst false 0 (bys c),.int .i64 i,.int .i64 n] = some r∧(∃ v : Int,r = (.int .i64 v,[])∧0≤v∧(v < n∨v = 0∧n≤1)) := by
 refine fun_sE (Q:=fun r => ∃ v : Int,r = (.int .i64 v,[])∧0≤v∧(v < n∨v = 0∧n≤1)) rfl cd15 rfl rfl rfl (by simp;rfl) (by simp;rfl) ?_
 refine wa_ (wc_region (w_ (a_ (h:=wo_nil (e_ (h:=aft_normal (wa_ (wc_region (w_ (m_ (h:=w_ (le (h:=w_ (a_ (h:=wo_nil (e_ (h:=aft_normal (?_))))))))))))))))))
 refine wa_ (wa_ (wc_region (w_ (m_ (h:=w_ (b_ (h:=wo_nil (e_ (h:=aft_normal (?_))))))))))
 refine c_ (h1:=?_) (h2:=?_)
 rotate_right 1
 focus
  intro c1
  first
  | exact dn c1
  | (
   have d1 := c1;try simp at d1
   have h7 := Int.emod_nonneg ((i : Int) * 7) (show n ≠ 0 by omega);have h8 := Int.emod_lt_of_pos ((i : Int) * 7) (show 0 < n by omega)
   refine wc_skip (?_)
   )
 rotate_right 1
 focus
  intro c1
  first
  | exact dn c1
  | (
   have d1 := c1;try simp at d1
   refine wa_ (wc_region (w_ (a_ (h:=wo_nil (e_ (h:=aft_normal (wc_ret (?_))))))))
   )
 all_goals first
 | refine aft_ret ?_
 | (
  refine aft_normal ?_
  refine wa_ (wa_ (wc_region (w_ (m_ (h:=w_ (bE (h:=wo_nil (e_ (h:=aft_normal (?_))))))))))
  refine c_ (h1:=?_) (h2:=?_)
  rotate_right 1
  focus
   intro c2
   first
   | exact dn c2
   | (
    have d2 := c2;try simp at d2
    have hlp : 0 < c.length := List.length_pos_iff.2 (by rintro rfl;simp at c2);obtain ⟨j,hj⟩ : ∃ j : Nat,i % c.length = j := ⟨_,rfl⟩;have hjl : j < c.length := (by rw [← hj];exact Nat.mod_lt _ hlp);have hg := bys_get (c:=c) (i:=j) hjl;have hgd : 0≤c.getD j 0∧c.getD j 0 < 256 := (by simp only [List.getD,hjl,List.getElem?_eq_getElem,Option.getD_some];exact hb _ (List.getElem_mem hjl));obtain ⟨g,hgv⟩ : ∃ g,c.getD j 0 = g := ⟨_,rfl⟩;rw [hgv] at hg hgd;have hwg : IntKind.i64.wrap (g) = g := wrap_id (by omega) (by omega);obtain ⟨q,hq⟩ : ∃ q : Nat,i / c.length = q := ⟨_,rfl⟩;have hql : q≤i := (by rw [← hq];exact Nat.div_le_self _ _)
    refine wc_skip (?_)
    )
  rotate_right 1
  focus
   intro c2
   first
   | exact dn c2
   | (
    have d2 := c2;try simp at d2
    refine wa_ (wc_region (w_ (m_ (h:=w_ (?_)))))
    refine b_ (hv:=iv_mulI (c:=(i : Int) * 7) rfl (by omega) (by omega)) (h:=?_)
    refine w_ (m_ (h:=w_ (?_)))
    refine b_ (hv:=iv_remN (x:=(i : Int) * 7) (by omega) (by omega) (by omega) rfl) (h:=?_)
    refine w_ (a_ (h:=wo_nil (e_ (h:=aft_normal (wc_ret (?_))))))
    )
  all_goals first
  | refine aft_ret ?_
  | (
   refine aft_normal ?_
   refine wa_ (wc_draw (y_ (m_ (h:=ax_ (h:=y_ (m_ (h:=ax_ (h:=y_ (m_ (h:=ax_ (h:=y_ (?_))))))))))))
   refine b_ (hv:=iv_rem (a:=i) (b:=c.length) rfl (by simp) hlp) (h:=?_);rw [hj]
   refine ax_ (h:=y_ (x_ (h:=ax_ (h:=y_ (l_ (h:=ax_ (h:=y_ (cv (h:=ax_ (h:=y_ (m_ (h:=ax_ (h:=y_ (m_ (h:=ax_ (h:=y_ (?_)))))))))))))))))
   refine b_ (hv:=iv_quo (a:=i) (b:=c.length) (q:=q) rfl (by simp) hlp hq (by omega)) (h:=?_)
   refine ax_ (h:=y_ (?_))
   refine b_ (hv:=iv_mulI rfl (by omega) (by omega)) (h:=?_)
   refine ax_ (h:=y_ (?_))
   refine b_ (hv:=iv_addI (c:=g + (q : Int) * 3) (by rw [hwg]) (by omega) (by omega)) (h:=?_)
   refine ax_ (h:=y_ (a_ (h:=ax_ (h:=wo_nil (ed (h:=aft_normal (wa_ (wa_ (wc_region (w_ (m_ (h:=w_ (b_ (h:=wo_nil (e_ (h:=aft_normal (?_)))))))))))))))))
   refine c_ (h1:=?_) (h2:=?_)
   rotate_right 1
   focus
    intro c3
    first
    | exact dn c3
    | (
     have d3 := c3;try simp at d3
     have h9 := Int.emod_nonneg (g + (q : Int) * 3) (show n ≠ 0 by omega);have h10 := Int.emod_lt_of_pos (g + (q : Int) * 3) (show 0 < n by omega)
     refine wc_skip (?_)
     )
   rotate_right 1
   focus
    intro c3
    first
    | exact dn c3
    | (
     have d3 := c3;try simp at d3
     exfalso;simp at c3;omega
     )
   all_goals first
   | (
    refine aft_normal ?_
    refine wa_ (wc_region (w_ (m_ (h:=w_ (m_ (h:=w_ (?_)))))))
    refine b_ (hv:=iv_remN (x:=g + (q : Int) * 3) (by omega) (by omega) (by omega) rfl) (h:=?_)
    refine w_ (a_ (h:=wo_nil (e_ (h:=aft_normal (wc_ret (?_))))))
    )
   )
  )
 all_goals (refine fin_E (Q:=fun r => ∃ v : Int,r = (.int .i64 v,[])∧0≤v∧(v < n∨v = 0∧n≤1)) (hr:=(res_tmp rfl res_nil)) (h:=?_);(focus (first | exact ⟨_,rfl,by omega,by omega⟩ | exact ⟨_,rfl,by omega,by simp at *;omega⟩)))
end Go.Proofs.Ytbcgenkegnmkhaa.Ev
namespace Go.Proofs.Ytbcgenkegnmkhaa.Ev
open Go
set_option maxRecDepth 100000
set_option linter.unusedSimpArgs false
set_option linter.unusedVariables false
set_option maxHeartbeats 2000000
def opKA (call : Call) (cfg : Cfg) (k id base : Nat) (e : List (Nat × V)) (o : List (Nat × Ob)) (n : Nat) (t : TypeId) (op : Op) (K : V→List (Nat × Ob)→Prop) : Prop :=
  ∃ v o',opA call cfg k id base ⟨e,o,n⟩ t op = some (v,⟨e,o',n⟩)∧K v o'
section
variable {orc : Orc} {fn : FuncId} {s : St} {Q : Ext→St→Prop}
theorem wc_told {id k : Nat} {ops : Array Oper} (hal : cf.alR fn id = k := by first | (rw [cf_al];done) | (rw [cf_al];rfl)) (hk : k ≠ 0 := by decide) (h : wpA orc.call cf k ops.toList s.nxt ops.toList s (fun t => Q .normal t)) : wpC orc cf fn (.region id ops false) s Q := wc_toldG hal hk h
end
section
variable {call : Call} {all rest : List Oper} {base k : Nat} {Q : St→Prop} {e : List (Nat × V)} {o : List (Nat × Ob)} {n : Nat} {d : Nat} {op : Op} {t : TypeId} {p : String} {af : Array Edge}
theorem wA (h : opKA call cf k n base e o n t op (fun v o' => wpA call cf k all base rest ⟨(d,v) :: e,o',n + 32⟩ Q)) : wpA call cf k all base (⟨some d,op,t,p,af,none⟩ :: rest) ⟨e,o,n⟩ Q := by
  obtain ⟨v,o',h1,t,h2,h3⟩ := h
  refine ⟨t,?_,h3⟩
  simp only [opsA,guardE,h1,Nat.max_self,St.put,St.on,Bool.false_eq_true,if_false,puta]
  exact h2
theorem oA {id : Nat} {K : V→List (Nat × Ob)→Prop} (hb : opB cf k id base ⟨e,o,n⟩ op = none := by first | rfl | (simp [opB];done)) (ha : alCall ⟨e,o,n⟩ op = none := by first | rfl | (simp [alCall];done)) (h : opK call cf id base e o n t op K) : opKA call cf k id base e o n t op K := by
  obtain ⟨v,o',h1,h2⟩ := h
  exact ⟨v,o',by simp only [opA,hb,ha,h1],h2⟩
theorem gA {j : Nat} {want b : Bool} {dd : Option Tmp} (hb : ((all[j]?).bind (·.dst)).bind (geta e) = some (.bool b) := by exact rfl) (hw : b = want := by first | exact rfl | assumption) (h : wpA call cf k all base (⟨dd,op,t,p,af,none⟩ :: rest) ⟨e,o,n⟩ Q) : wpA call cf k all base (⟨dd,op,t,p,af,some (j,want)⟩ :: rest) ⟨e,o,n⟩ Q := by
  obtain ⟨t,h2,h3⟩ := h
  refine ⟨t,?_,h3⟩
  subst hw
  rw [← h2]
  simp only [opsA,guardE,hb,BEq.rfl]
theorem goA {j : Nat} {want b : Bool} (hb : ((all[j]?).bind (·.dst)).bind (geta e) = some (.bool b) := by exact rfl) (hw : b = !want := by first | exact rfl | assumption) (h : wpA call cf k all base rest ⟨(d,.iop .und) :: e,o,n + 32⟩ Q) : wpA call cf k all base (⟨some d,op,t,p,af,some (j,want)⟩ :: rest) ⟨e,o,n⟩ Q := by
  obtain ⟨t,h2,h3⟩ := h
  refine ⟨t,?_,h3⟩
  subst hw
  rw [← h2]
  have : ((!want) == want) = false := by cases want <;> rfl
  simp only [opsA,guardE,hb,this,St.put,St.on,Bool.false_eq_true,if_false,puta]
theorem gwA {j : Nat} {want b : Bool} {dd : Option Tmp} (hb : ((all[j]?).bind (·.dst)).bind (geta e) = some (.bool b) := by exact rfl)
    (h1 : b = want→wpA call cf k all base (⟨dd,op,t,p,af,some (j,want)⟩ :: rest) ⟨e,o,n⟩ Q) (h2 : b = !want→wpA call cf k all base (⟨dd,op,t,p,af,some (j,want)⟩ :: rest) ⟨e,o,n⟩ Q) :
    wpA call cf k all base (⟨dd,op,t,p,af,some (j,want)⟩ :: rest) ⟨e,o,n⟩ Q := by
  by_cases h : b = want
  · exact h1 h
  · exact h2 (by cases b <;> cases want <;> simp_all)
theorem nA {m n' : Nat} (hn : m = n' := by ((try simp);rfl)) (h : Q ⟨e,o,n'⟩) : wpA call cf k all base [] ⟨e,o,m⟩ Q := by subst hn;exact ⟨_,rfl,h⟩
end
section
variable {all rest : List Oper} {base k : Nat} {Q : St→Prop} {e : List (Nat × V)} {o : List (Nat × Ob)} {n : Nat} {d : Nat} {t : TypeId} {p : String} {af : Array Edge}
theorem iA {args : Array Operand} {ts : Array TypeId} {fo : Operand} {f : FuncId} {cs vs : List V} {fn : Func} {body : Code} (hcd : cf.code f = some fn) (hbd : fn.body = some body) (hx : opsV e args.toList = some vs := by exact rfl) (hf : opV e fo = some (.clo f cs) := by exact rfl) (hlen : (vs ++ cs).length = fn.params.size + fn.nfree := by rfl) (hB : cf.inB f = true := by (rw [cf_in];rfl)) (hP : cf.plB f = false := by (rw [cf_pl];rfl)) (hk : V.capsOk cs = true := by exact rfl) (ha : alCall ⟨e,o,n⟩ (.call ⟨.value fo,args,ts⟩) = none := by (simp [alCall];done))
    (h : wpC ⟨oc.call,loopU oc.call cf 6⟩ cf f body ⟨rawArgs 0 (vs ++ cs),o,n⟩ (fun t s => (t = .normal∨t = .ret)∧∃ ws,resL cf s fn.results.toList = some ws∧ws.all (fun v => !v.isTup) = true∧wpA oc.call cf k all base rest ⟨(d,oneV ws) :: e,s.obs,max n s.nxt + 32⟩ Q)) :
    wpA oc.call cf k all base (⟨some d,.call ⟨.value fo,args,ts⟩,t,p,af,none⟩ :: rest) ⟨e,o,n⟩ Q := by
  obtain ⟨r,h1,h2,ws,h3,h4,t',h5,h6⟩ := h
  have hi : oc.call.i f (vs ++ cs) ⟨e,o,n⟩ n = some (oneV ws,⟨e,r.2.obs,r.2.nxt⟩) := by
    have hI : inlE oc.call cf f (vs ++ cs) ⟨e,o,n⟩ n = some (oneV ws,⟨e,r.2.obs,r.2.nxt⟩) := by
      unfold inlE
      simp only [hcd,hbd,if_pos hlen,h1,if_pos h2,h3,if_pos h4]
    exact oc_inl hP hI
  refine ⟨t',?_,h6⟩
  have hb : opB cf k n base ⟨e,o,n⟩ (.call ⟨.value fo,args,ts⟩) = none := by simp only [opB,hx]
  simp only [opsA,guardE,opA,hb,ha,opE,hx,hf,if_pos hk,if_pos hB,hi,St.put,St.on,Bool.false_eq_true,if_false,puta]
  exact h5
end
def uQ (call : Call) (n : Nat) (fn : FuncId) (b : Code) (Q : Ext→St→Prop) : Ext→St→Prop := fun e s => match e with
  | .normal => ∃ r,loopU call cf n fn (keyOf b) s = some r∧Q r.1 r.2
  | e => Q e s
theorem uL {call : Call} {n : Nat} {fn : FuncId} {f : Func} {full b : Code} {s : St} {Q : Ext→St→Prop} (hf : cf.code fn = some f) (hb : f.body = some full) (hk : findLoop (keyOf b) full = some b) (h : wpC ⟨call,loopU call cf n⟩ cf fn b s (uQ call n fn b Q)) : wpC ⟨call,loopU call cf (n + 1)⟩ cf fn (.loop b) s Q := by
  refine wc_loopU hf hb hk ?_
  obtain ⟨r,h1,h2⟩ := h
  refine ⟨r,h1,?_⟩
  obtain ⟨e,s'⟩ := r
  cases e <;> exact h2
theorem uN {call : Call} {n : Nat} {fn : FuncId} {b : Code} {s : St} {Q : Ext→St→Prop} (h : wpC ⟨call,loopU call cf n⟩ cf fn (.loop b) s Q) : uQ call n fn b Q .normal s := h
theorem uX {call : Call} {n i : Nat} {fn : FuncId} {b : Code} {s : St} {Q : Ext→St→Prop} (h : Q (.exit i) s) : uQ call n fn b Q (.exit i) s := h
end Go.Proofs.Ytbcgenkegnmkhaa.Ev
