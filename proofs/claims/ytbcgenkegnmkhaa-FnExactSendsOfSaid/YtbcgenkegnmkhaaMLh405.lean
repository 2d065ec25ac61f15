/- Part 5 of the proof that the law named in the last part returns true at every argument: an evaluator of the program, shown sound, and its runs. No further conditions. -/
import Derived.Test.YtbcgenkegnmkhaaMLh404
namespace Go.Proofs.Ytbcgenkegnmkhaa.Ev
open Go
set_option maxRecDepth 100000
set_option linter.unusedSimpArgs false
set_option linter.unusedVariables false
set_option maxHeartbeats 2000000
theorem good_nil (pl : List Nd) : Good pl [] := fun n h => by simp at h
theorem step_ok {pl : List Nd} {d : Nd} {out : List Int} (hl : out.length < 2000000) (h : stepC pl d out = 0) : fitN d out.length := by
  unfold stepC at h
  split at h
  · cases h
  · split at h
    · cases h
    · split at h
      · cases h
      · rename_i h1 h2 h3
        exact fit_of hl (by simpa using h3)
theorem good_snoc {pl : List Nd} {d : Nd} {ws : List Int} (hk : okN pl) (hl : ws.length < 2000000) (G : Good pl ws) (hx : pl[ws.length]? = some d) (h : stepC pl d ws = 0) : Good pl (ws ++ [widthN d ws]) := by
  intro n hn
  by_cases hlt : n < ws.length
  · obtain ⟨e,h1,h2,h3⟩ := G n hlt
    refine ⟨e,h1,?_,h3⟩
    rw [List.take_append_of_le_length (by omega),← h2]
    simp only [at0,List.getD_eq_getElem?_getD]
    rw [List.getElem?_append_left (by omega)]
  · have : n = ws.length := by simp at hn;omega
    subst this
    refine ⟨d,hx,?_,step_ok hl h,hk d (List.mem_of_getElem? hx)⟩
    rw [List.take_left]
    simp [at0,List.getD_eq_getElem?_getD]
theorem l_planS (pl : List Nd) (hp : pl.length < 2000000) (hk : okN pl) : ∀ ws : List Int,(Good pl ws ∧ ws.length ≤ pl.length) → ∀ s,normE 1 (some [0,3]) s = ⟨[(0,.lst false 0 (nds false 0 pl)),(3,.int .i64 ws.length)],[],1⟩ →
 oc.loop 8 4 s = some (if (lookR pl (pl.drop ws.length) ws).2 = 0 then (.exit 0,⟨[],[],1⟩) else (.ret,⟨[(2,.int .i64 (lookR pl (pl.drop ws.length) ws).2)],[],1⟩)) := by
 refine loop_ind (σ:=List Int) (fun ws => pl.length - ws.length) _ (fun ws => ⟨[(0,.lst false 0 (nds false 0 pl)),(3,.int .i64 ws.length)],[],1⟩) _ ?_
 rintro ws ⟨G,hi⟩ ih s hs
 refine loop_s cd8 rfl rfl hs ?_
 refine wa_ (wa_ (wc_region (w_ (m_ (h:=w_ (m_ (h:=w_ (le (h:=w_ (b_ (h:=wo_nil (e_ (h:=aft_normal (?_))))))))))))))
 refine c_ (h1:=?_) (h2:=?_)
 rotate_right 1
 focus
  intro c1
  first
  | exact dn c1
  | (
   have d1 := c1;try simp at d1
   refine wc_exit (?_)
   )
 rotate_right 1
 focus
  intro c1
  first
  | exact dn c1
  | (
   have d1 := c1;try simp at d1
   have hw := wrap_succ (i:=ws.length) (by omega);obtain ⟨d,hx,e1,g1⟩ := nds_cut (t:=false) (s:=0) (l:=pl) (i:=ws.length) (by omega)
   refine wc_skip (?_)
   )
 all_goals first
 | refine aft_exit ?_
 | (
  refine aft_normal ?_
  refine wa_ (wc_block (wa_ (wc_region (w_ (m_ (h:=w_ (m_ (h:=w_ (ca (hc:=e_l3Node pl ws d hp hk G hx) (h:=w_ (a_ (h:=wo_nil (e_ (h:=aft_normal (wa_ (wc_region (?_)))))))))))))))))
  refine w_ (m_ (h:=w_ (bE (h:=wo_nil (e_ (h:=aft_normal (?_)))))))
  refine c_ (h1:=?_) (h2:=?_)
  rotate_right 1
  focus
   intro c2
   first
   | exact dn c2
   | (
    have d2 := c2;try simp at d2
    refine wc_skip (?_)
    )
  rotate_right 1
  focus
   intro c2
   first
   | exact dn c2
   | (
    have d2 := c2;try simp at d2
    refine wa_ (wc_region (w_ (m_ (h:=w_ (a_ (h:=wo_nil (e_ (h:=aft_normal (wc_ret (?_))))))))))
    )
  all_goals first | refine blk_normal ?_ | refine blk_ret ?_
  all_goals first
  | refine aft_ret ?_
  | (
   refine aft_normal ?_
   refine wc_region (w_ (m_ (h:=w_ (b_ (h:=w_ (a_ (h:=wo_nil (e_ (h:=?_)))))))))
   )
  )
 all_goals first
 | (refine (ih (ws ++ [widthN d ws]) (⟨good_snoc hk (by omega) G hx d2,by simp;omega⟩) ?_ _ ?_).trans ?_;(focus (first | omega | (simp;done) | (simp;omega)));(focus (simp [normE,hw];done));(focus (rw [look_go e1 d2];simp)))
 | (apply end_leaf (ex:=Ext.ret) 1 (some [2]);(focus (simp [normE];rfl));(focus (rw [e1,lookR,if_neg d2];simp [d2])))
 | (apply end_leaf (ex:=(Ext.exit 0)) 1 (some [2]);(focus (simp [normE];rfl));(focus (rw [List.drop_eq_nil_of_le (by omega)];simp [lookR])))
theorem e_planS (pl : List Nd) (hp : pl.length < 2000000) (hk : okN pl) : oc.call 8 [.lst false 0 (nds false 0 pl)] = some (.int .i64 (lookN pl).2,[]) := by
 refine fun_s rfl cd8 rfl rfl rfl (by simp;rfl) (by simp;rfl) ?_
 refine wa_ (wc_region (w_ (a_ (h:=wo_nil (e_ (h:=aft_normal (wa_ (wa_ (wc_region (w_ (m_ (h:=w_ (le (h:=w_ (b_ (h:=w_ (m_ (h:=?_))))))))))))))))))
 refine gw_ (h1:=?_) (h2:=?_)
 rotate_right 1
 focus
  intro c1
  first
  | exact dn c1
  | (
   have d1 := c1;try simp at d1
   refine go_ (h:=go_ (h:=go_ (h:=?_)))
   )
 rotate_right 1
 focus
  intro c1
  first
  | exact dn c1
  | (
   have d1 := c1;try simp at d1
   refine g_ (h:=w_ (m_ (h:=g_ (h:=w_ (le (h:=g_ (h:=w_ (b_ (h:=?_)))))))))
   )
 all_goals
  refine w_ (pk (h:=wo_nil (e_ (h:=?_))))
 all_goals first
 | (
  refine aft_normal ?_
  refine c_ (h1:=?_) (h2:=?_)
  rotate_right 1
  focus
   intro c2
   first
   | exact dn c2
   | (
    have d2 := c2;try simp at d2
    refine wc_skip (?_)
    )
  rotate_right 1
  focus
   intro c2
   first
   | exact dn c2
   | (
    have d2 := c2;try simp at d2
    refine wa_ (wc_region (w_ (a_ (h:=wo_nil (e_ (h:=aft_normal (wc_ret (?_))))))))
    )
  )
 all_goals first
 | refine aft_ret ?_
 | (
  refine aft_normal ?_
  refine wa_ (wa_ (wc_region (w_ (a_ (h:=wo_nil (e_ (h:=aft_normal (wc_block (?_)))))))))
  refine wc_loopI (l_planS pl hp hk [] ⟨good_nil pl,by simp⟩ _ (by simp [normE])) ?_ ?_
  rotate_right 1
  focus
   intro c3
   first
   | exact dn c3
   | (
    have d3 := c3;try simp at d3
    skip
    )
  rotate_right 1
  focus
   intro c3
   first
   | exact dn c3
   | (
    have d3 := c3;try simp at d3
    skip
    )
  all_goals first | refine blk_ret ?_ | refine blk_exit ?_
  all_goals first
  | refine aft_ret ?_
  | (
   refine aft_normal ?_
   refine wa_ (wc_region (w_ (a_ (h:=wo_nil (e_ (h:=aft_normal (wc_ret (?_))))))))
   )
  )
 all_goals (refine fin_ (hr:=(res_tmp rfl res_nil)) (h:=?_);(focus (clear hk;first | (simp_all [lookN,inI];done) | (simp_all [lookN,inI] <;> grind))))
def readsFrom (d : Nd) (a : Int) : Bool := (readsN d).contains a
theorem e_l3From (d : Nd) (a : Int) (hd : d.cells.length < 2000000) : oc.call 128 [d.v false 0,.int .i64 a] = some (.bool (readsFrom d a),[]) := by
 refine fun_s rfl cd128 rfl rfl rfl (by simp;rfl) (by simp;rfl) ?_
 refine wa_ (wc_region (w_ (bx (h:=w_ (a_ (h:=wo_nil (e_ (h:=aft_normal (wa_ (wc_region (w_ (f_ (h:=w_ (l_ (h:=w_ (ca (hc:=e_l3Reads _) (h:=w_ (b_ (h:=?_)))))))))))))))))))
 refine w_ (m_ (h:=?_))
 refine gw_ (h1:=?_) (h2:=?_)
 rotate_right 1
 focus
  intro c1
  first
  | exact dn c1
  | (
   have d1 := c1;try simp at d1
   refine go_ (h:=go_ (h:=go_ (h:=go_ (h:=?_))))
   )
 rotate_right 1
 focus
  intro c1
  first
  | exact dn c1
  | (
   have d1 := c1;try simp at d1
   refine g_ (h:=w_ (f_ (h:=g_ (h:=w_ (l_ (h:=g_ (h:=w_ (m_ (h:=g_ (h:=w_ (bE (h:=?_))))))))))))
   )
 all_goals
  refine w_ (pk (h:=w_ (m_ (h:=?_))))
  refine gw_ (h1:=?_) (h2:=?_)
  rotate_right 1
  focus
   intro c2
   first
   | exact dn c2
   | (
    have d2 := c2;try simp at d2
    refine go_ (h:=go_ (h:=go_ (h:=go_ (h:=go_ (h:=?_)))))
    )
  rotate_right 1
  focus
   intro c2
   first
   | exact dn c2
   | (
    have d2 := c2;try simp at d2
    refine g_ (h:=w_ (f_ (h:=g_ (h:=w_ (l_ (h:=g_ (h:=w_ (ca (hc:=e_l3Reads _) (h:=g_ (h:=w_ (b_ (h:=g_ (h:=w_ (m_ (h:=?_)))))))))))))))
    )
  all_goals
   first
   | (
    skip
    refine goN (h:=goN (h:=goN (h:=goN (h:=?_))))
    )
   | (
    refine gw_ (h1:=?_) (h2:=?_)
    rotate_right 1
    focus
     intro c3
     first
     | exact dn c3
     | (
      have d3 := c3;try simp at d3
      refine go_ (h:=go_ (h:=go_ (h:=go_ (h:=?_))))
      )
    rotate_right 1
    focus
     intro c3
     first
     | exact dn c3
     | (
      have d3 := c3;try simp at d3
      refine g_ (h:=w_ (f_ (h:=g_ (h:=w_ (l_ (h:=g_ (h:=w_ (m_ (h:=g_ (h:=w_ (bE (h:=?_))))))))))))
      )
    )
   all_goals
    first
    | (
     skip
     refine g_ (h:=w_ (pk (h:=?_)))
     )
    | (
     skip
     refine go_ (h:=?_)
     )
    all_goals
     refine w_ (pk (h:=w_ (a_ (h:=wo_nil (e_ (h:=?_))))))
 all_goals first
 | (
  refine aft_normal ?_
  refine wc_ret (?_)
  )
 all_goals (refine fin_ (hr:=(res_tmp rfl res_nil)) (h:=?_);(focus (simp [readsFrom,readsN];grind)))
def rdFrom (a : Int) (i : Nat) : List Nd → List Int
  | [] => []
  | d :: r => if readsFrom d a = true then (i : Int) :: rdFrom a (i + 1) r else rdFrom a (i + 1) r
theorem l_readersS (pl : List Nd) (a : Int) (hp : pl.length < 2000000) (hk : okN pl) : ∀ x : Nat × List Int,(x.1 ≤ pl.length ∧ x.2.length ≤ x.1) → ∀ s,normE 2 (some [0,1,5,6]) s = ⟨[(0,.lst false 0 (nds false 0 pl)),(1,.int .i64 a),(5,.ref 2 0 x.2.length),(6,.int .i64 x.1)],[(2,⟨false,false,1,ints x.2,0⟩)],3⟩ →
 oc.loop 101 3 s = some (.exit 0,⟨[(5,.ref 2 0 (x.2 ++ rdFrom a x.1 (pl.drop x.1)).length)],[(2,⟨false,false,1,ints (x.2 ++ rdFrom a x.1 (pl.drop x.1)),0⟩)],3⟩) := by
 refine loop_ind (σ:=Nat × List Int) (fun x => pl.length - x.1) _ (fun x => ⟨[(0,.lst false 0 (nds false 0 pl)),(1,.int .i64 a),(5,.ref 2 0 x.2.length),(6,.int .i64 x.1)],[(2,⟨false,false,1,ints x.2,0⟩)],3⟩) _ ?_
 rintro ⟨i,out⟩ ⟨hi,ho⟩ ih s hs
 simp only at hi ho
 refine loop_s cd101 rfl rfl hs ?_
 refine wa_ (wa_ (wc_region (w_ (m_ (h:=w_ (m_ (h:=w_ (le (h:=w_ (b_ (h:=wo_nil (e_ (h:=aft_normal (?_))))))))))))))
 refine c_ (h1:=?_) (h2:=?_)
 rotate_right 1
 focus
  intro c1
  first
  | exact dn c1
  | (
   have d1 := c1;try simp at d1
   refine wc_exit (?_)
   )
 rotate_right 1
 focus
  intro c1
  first
  | exact dn c1
  | (
   have d1 := c1;try simp at d1
   have hw := wrap_succ (i:=i) (by omega);obtain ⟨d,hx,e1,g1⟩ := nds_cut (t:=false) (s:=0) (l:=pl) (i:=i) (by omega);have hd := hk d (List.mem_of_getElem? hx)
   refine wc_skip (?_)
   )
 all_goals first
 | refine aft_exit ?_
 | (
  refine aft_normal ?_
  refine wa_ (wc_block (wa_ (wc_region (w_ (m_ (h:=w_ (m_ (h:=w_ (x_ (h:=w_ (l_ (h:=w_ (m_ (h:=w_ (ca (hc:=e_l3From d a hd) (h:=wo_nil (e_ (h:=aft_normal (?_)))))))))))))))))))
  refine c_ (h1:=?_) (h2:=?_)
  rotate_right 1
  focus
   intro c2
   first
   | exact dn c2
   | (
    have d2 := c2;try simp at d2
    refine wc_skip (?_)
    )
  rotate_right 1
  focus
   intro c2
   first
   | exact dn c2
   | (
    have d2 := c2;try simp at d2
    refine wc_region (w_ (m_ (h:=w_ (m_ (h:=w_ (bs (h:=w_ (ap (h:=w_ (a_ (h:=wo_nil (e_ (h:=?_)))))))))))))
    )
  all_goals refine blk_normal ?_
  all_goals first
  | (
   refine aft_normal ?_
   refine wc_region (w_ (m_ (h:=w_ (b_ (h:=w_ (a_ (h:=wo_nil (e_ (h:=?_)))))))))
   )
  )
 all_goals first
 | (refine (ih ((i + 1,out ++ [(i : Int)])) (⟨by simp;omega,by simp;omega⟩) ?_ _ ?_).trans ?_;(focus (first | omega | (simp;done) | (simp;omega)));(focus (simp [normE,hw];done));(focus (simp only [e1,rdFrom,d2,if_true];simp)))
 | (refine (ih ((i + 1,out)) (⟨by simp;omega,by simp;omega⟩) ?_ _ ?_).trans ?_;(focus (first | omega | (simp;done) | (simp;omega)));(focus (simp [normE,hw];done));(focus (simp only [e1,rdFrom,d2];simp)))
 | (apply end_leaf (ex:=(Ext.exit 0)) 2 (some [5]);(focus (simp [normE];rfl));(focus (simp only [List.drop_eq_nil_of_le (show pl.length ≤ i by omega),rdFrom];simp)))
theorem e_readersS (pl : List Nd) (a : Int) (hp : pl.length < 2000000) (hk : okN pl) : oc.call 101 [.lst false 0 (nds false 0 pl),.int .i64 a] = some (.lst true 1 (ints (rdFrom a 0 pl)),[]) := by
 refine fun_s rfl cd101 rfl rfl rfl (by simp;rfl) (by simp;rfl) ?_
 refine wa_ (wc_region (w_ (aN (h:=wo_nil (e_ (h:=aft_normal (wa_ (wc_region (w_ (bs (h:=w_ (a_ (h:=wo_nil (e_ (h:=aft_normal (wa_ (?_)))))))))))))))))
 refine wa_ (wc_region (w_ (a_ (h:=wo_nil (e_ (h:=aft_normal (wc_block (?_))))))))
 refine wc_loop (l_readersS pl a hp hk (0,[]) (by simp) _ (by simp [normE])) ?_
 refine blk_exit (aft_normal (wa_ (wc_region (w_ (m_ (h:=w_ (a_ (h:=wo_nil (e_ (h:=aft_normal (wc_ret (?_))))))))))))
 all_goals (refine fin_ (hr:=(res_tmp rfl res_nil)) (h:=?_);(focus (first | (simp_all;done) | (simp_all <;> omega) | (simp_all <;> split <;> simp_all <;> omega))))
end Go.Proofs.Ytbcgenkegnmkhaa.Ev
namespace Go.Proofs.Ytbcgenkegnmkhaa.Ev
open Go
set_option maxRecDepth 100000
set_option linter.unusedSimpArgs false
set_option linter.unusedVariables false
set_option maxHeartbeats 2000000
def idxF (v : Int) (i : Nat) : List Int → Int
  | [] => -1
  | x :: r => if v = x then i else idxF v (i + 1) r
theorem idxF_neg {v : Int} : ∀ {l : List Int} {i : Nat},0 ≤ idxF v i l ↔ v ∈ l
  | [],i => by simp [idxF]
  | x :: r,i => by
    unfold idxF
    by_cases h : v = x
    · simp [h]
    · simp [h,idxF_neg (l:=r) (i:=i + 1)]
theorem l_index (l : List Int) (v : Int) (hl : l.length < 2000000) : ∀ i : Nat,i ≤ l.length → ∀ s,normE 2 (some [0,1,7,8]) s = ⟨[(0,.lst false 0 (ints l)),(1,.int .i64 v),(7,.int .i64 l.length),(8,.int .i64 i)],[],2⟩ →
 oc.loop 138 2 s = some (if 0 ≤ idxF v i (l.drop i) then (.ret,⟨[(4,.int .i64 (idxF v i (l.drop i)))],[],2⟩) else (.exit 0,⟨[],[],2⟩)) := by
 refine loop_ind (fun i => l.length - i) _ (fun i => ⟨[(0,.lst false 0 (ints l)),(1,.int .i64 v),(7,.int .i64 l.length),(8,.int .i64 i)],[],2⟩) _ ?_
 intro i hi ih s hs
 refine loop_s cd138 rfl rfl hs ?_
 refine wa_ (wc_region (w_ (b_ (h:=wo_nil (e_ (h:=aft_normal (wa_ (?_))))))))
 refine c_ (h1:=?_) (h2:=?_)
 rotate_right 1
 focus
  intro c1
  first
  | exact dn c1
  | (
   have d1 := c1;try simp at d1
   refine wc_exit (?_)
   )
 rotate_right 1
 focus
  intro c1
  first
  | exact dn c1
  | (
   have d1 := c1;try simp at d1
   have hw := wrap_succ (i:=i) (by omega);obtain ⟨x,hx,e1,g1⟩ := ints_cut (l:=l) (i:=i) (by omega)
   refine wc_skip (?_)
   )
 all_goals first
 | refine aft_exit ?_
 | (
  refine aft_normal ?_
  refine wa_ (wc_block (wa_ (wc_region (w_ (m_ (h:=w_ (a_ (h:=wo_nil (e_ (h:=aft_normal (wa_ (wc_region (w_ (m_ (h:=w_ (m_ (h:=?_)))))))))))))))))
  refine w_ (m_ (h:=w_ (x_ (h:=w_ (l_ (h:=w_ (bE (h:=wo_nil (e_ (h:=aft_normal (?_)))))))))))
  refine c_ (h1:=?_) (h2:=?_)
  rotate_right 1
  focus
   intro c2
   first
   | exact dn c2
   | (
    have d2 := c2;try simp at d2
    refine wc_skip (?_)
    )
  rotate_right 1
  focus
   intro c2
   first
   | exact dn c2
   | (
    have d2 := c2;try simp at d2
    refine wa_ (wc_region (w_ (m_ (h:=w_ (a_ (h:=wo_nil (e_ (h:=aft_normal (wc_ret (?_))))))))))
    )
  all_goals first | refine blk_normal ?_ | refine blk_ret ?_
  all_goals first
  | refine aft_ret ?_
  | (
   refine aft_normal ?_
   refine wc_region (w_ (b_ (h:=w_ (m_ (h:=wo_nil (e_ (h:=?_)))))))
   )
  )
 all_goals first
 | (refine (ih (i + 1) (by omega) ?_ _ ?_).trans ?_;(focus (first | omega | (simp;done) | (simp;omega)));(focus (simp [normE,hw];done));(focus (rw [e1];simp only [idxF,if_neg d2])))
 | (apply end_leaf (ex:=Ext.ret) 2 (some [4]);(focus (simp [normE];rfl));(focus (rw [e1];simp [idxF,d2])))
 | (apply end_leaf (ex:=(Ext.exit 0)) 2 (some [4]);(focus (simp [normE];rfl));(focus (rw [List.drop_eq_nil_of_le (by omega)];simp [idxF])))
theorem e_index (l : List Int) (v : Int) (hl : l.length < 2000000) : oc.call 138 [.lst false 0 (ints l),.int .i64 v] = some (.int .i64 (if 0 ≤ idxF v 0 l then idxF v 0 l else -1),[]) := by
 refine fun_s rfl cd138 rfl rfl rfl (by simp;rfl) (by simp;rfl) ?_
 refine wa_ (wc_region (w_ (a_ (h:=wo_nil (e_ (h:=aft_normal (wa_ (wa_ (wc_region (w_ (m_ (h:=w_ (le (h:=w_ (m_ (h:=wo_nil (e_ (h:=?_))))))))))))))))))
 refine aft_normal (wc_block (?_))
 refine wc_loopI (l_index l v hl 0 (by omega) _ (by simp [normE])) ?_ ?_
 rotate_right 1
 focus
  intro c1
  skip
 rotate_right 1
 focus
  intro c1
  skip
 all_goals first | refine blk_ret ?_ | refine blk_exit ?_
 all_goals first
 | refine aft_ret ?_
 | (
  refine aft_normal ?_
  refine wa_ (wc_region (w_ (a_ (h:=wo_nil (e_ (h:=aft_normal (wc_ret (?_))))))))
  )
 all_goals (refine fin_ (hr:=(res_tmp rfl res_nil)) (h:=?_);(focus (first | (simp_all;done) | (simp_all <;> omega) | (simp_all <;> split <;> simp_all <;> omega))))
theorem e_contains (l : List Int) (v : Int) (hl : l.length < 2000000) : oc.call 117 [.lst false 0 (ints l),.int .i64 v] = some (.bool (l.contains v),[]) := by
 refine fun_s rfl cd117 rfl rfl rfl (by simp;rfl) (by simp;rfl) ?_
 refine wa_ (wc_region (w_ (a_ (h:=wo_nil (e_ (h:=aft_normal (wa_ (wc_region (w_ (m_ (h:=w_ (m_ (h:=w_ (ca (hc:=e_index _ _ hl) (h:=w_ (b_ (h:=w_ (a_ (h:=?_)))))))))))))))))))
 refine wo_nil (e_ (h:=aft_normal (wc_ret (?_))))
 all_goals (refine fin_ (hr:=(res_tmp rfl res_nil)) (h:=?_);(focus (simp;have := idxF_neg (v:=v) (l:=l) (i:=0);grind)))
theorem l_readersI (pl : List Nd) (a : Int) (hp : pl.length < 2000000) (hk : okN pl) : ∀ x : Nat × List Int,(x.1 ≤ pl.length ∧ x.2.length ≤ x.1) → ∀ s,normE 2 (some [1,5,9,10,11]) s = ⟨[(1,.int .i64 a),(5,.ref 2 0 x.2.length),(9,.lst false 0 (nds false 0 pl)),(10,.int .i64 pl.length),(11,.int .i64 x.1)],[(2,⟨false,false,1,ints x.2,0⟩)],3⟩ →
 oc.loop 79 3 s = some (.exit 0,⟨[(5,.ref 2 0 (x.2 ++ rdFrom a x.1 (pl.drop x.1)).length)],[(2,⟨false,false,1,ints (x.2 ++ rdFrom a x.1 (pl.drop x.1)),0⟩)],3⟩) := by
 refine loop_ind (σ:=Nat × List Int) (fun x => pl.length - x.1) _ (fun x => ⟨[(1,.int .i64 a),(5,.ref 2 0 x.2.length),(9,.lst false 0 (nds false 0 pl)),(10,.int .i64 pl.length),(11,.int .i64 x.1)],[(2,⟨false,false,1,ints x.2,0⟩)],3⟩) _ ?_
 rintro ⟨i,out⟩ ⟨hi,ho⟩ ih s hs
 simp only at hi ho
 refine loop_s cd79 rfl rfl hs ?_
 refine wa_ (wc_region (w_ (b_ (h:=wo_nil (e_ (h:=aft_normal (wa_ (?_))))))))
 refine c_ (h1:=?_) (h2:=?_)
 rotate_right 1
 focus
  intro c1
  first
  | exact dn c1
  | (
   have d1 := c1;try simp at d1
   refine wc_exit (?_)
   )
 rotate_right 1
 focus
  intro c1
  first
  | exact dn c1
  | (
   have d1 := c1;try simp at d1
   have hw := wrap_succ (i:=i) (by omega);obtain ⟨d,hx,e1,g1⟩ := nds_cut (t:=false) (s:=0) (l:=pl) (i:=i) (by omega);have hd := hk d (List.mem_of_getElem? hx);have hle : (readsN d).length < 2000000 := (by have : (readsN d).length ≤ 2 := (by unfold readsN;split;simp;split <;> simp);omega)
   refine wc_skip (?_)
   )
 all_goals first
 | refine aft_exit ?_
 | (
  refine aft_normal ?_
  refine wa_ (wc_block (wa_ (wc_region (w_ (m_ (h:=w_ (x_ (h:=w_ (l_ (h:=w_ (al (h:=w_ (a_ (h:=w0 (s_ (h:=wo_nil (e_ (h:=aft_normal (?_)))))))))))))))))))
  refine wa_ (wc_region (w_ (l_ (h:=w_ (ca (hc:=e_reads 0 d) (h:=w_ (m_ (h:=w_ (ca (hc:=e_contains (readsN d) a hle) (h:=wo_nil (e_ (h:=aft_normal (?_)))))))))))))
  refine c_ (h1:=?_) (h2:=?_)
  rotate_right 1
  focus
   intro c2
   first
   | exact dn c2
   | (
    have d2 := c2;try simp at d2
    refine wc_skip (?_)
    )
  rotate_right 1
  focus
   intro c2
   first
   | exact dn c2
   | (
    have d2 := c2;try simp at d2
    refine wc_region (w_ (m_ (h:=w_ (m_ (h:=w_ (bs (h:=w_ (ap (h:=w_ (a_ (h:=wo_nil (e_ (h:=?_)))))))))))))
    )
  all_goals refine blk_normal ?_
  all_goals first
  | (
   refine aft_normal ?_
   refine wc_region (w_ (b_ (h:=w_ (m_ (h:=wo_nil (e_ (h:=?_)))))))
   )
  )
 all_goals first
 | (refine (ih ((i + 1,out ++ [(i : Int)])) (⟨by simp;omega,by simp;omega⟩) ?_ _ ?_).trans ?_;(focus (first | omega | (simp;done) | (simp;omega)));(focus (simp [normE,hw];done));(focus (have d3 : readsFrom d a = true := (by simpa [readsFrom] using d2);simp only [e1,rdFrom,d3,if_true];simp)))
 | (refine (ih ((i + 1,out)) (⟨by simp;omega,by simp;omega⟩) ?_ _ ?_).trans ?_;(focus (first | omega | (simp;done) | (simp;omega)));(focus (simp [normE,hw];done));(focus (have d3 : readsFrom d a = false := (by simpa [readsFrom] using d2);simp only [e1,rdFrom,d3];simp)))
 | (apply end_leaf (ex:=(Ext.exit 0)) 2 (some [5]);(focus (simp [normE];rfl));(focus (simp only [List.drop_eq_nil_of_le (show pl.length ≤ i by omega),rdFrom];simp)))
theorem e_readersI (pl : List Nd) (a : Int) (hp : pl.length < 2000000) (hk : okN pl) : oc.call 79 [.lst false 0 (nds false 0 pl),.int .i64 a] = some (.lst true 1 (ints (rdFrom a 0 pl)),[]) := by
 refine fun_s rfl cd79 rfl rfl rfl (by simp;rfl) (by simp;rfl) ?_
 refine wa_ (wc_region (w_ (aN (h:=wo_nil (e_ (h:=aft_normal (wa_ (wc_region (w_ (bs (h:=w_ (a_ (h:=wo_nil (e_ (h:=aft_normal (wa_ (?_)))))))))))))))))
 refine wa_ (wc_region (w_ (m_ (h:=w_ (le (h:=w_ (m_ (h:=wo_nil (e_ (h:=aft_normal (wc_block (?_))))))))))))
 refine wc_loop (l_readersI pl a hp hk (0,[]) (by simp) _ (by simp [normE])) ?_
 refine blk_exit (aft_normal (wa_ (wc_region (w_ (m_ (h:=w_ (a_ (h:=wo_nil (e_ (h:=aft_normal (wc_ret (?_))))))))))))
 all_goals (refine fin_ (hr:=(res_tmp rfl res_nil)) (h:=?_);(focus (first | (simp_all;done) | (simp_all <;> omega) | (simp_all <;> split <;> simp_all <;> omega))))
end Go.Proofs.Ytbcgenkegnmkhaa.Ev
namespace Go.Proofs.Ytbcgenkegnmkhaa.Ev
open Go
set_option maxRecDepth 100000
set_option linter.unusedSimpArgs false
set_option linter.unusedVariables false
set_option maxHeartbeats 2000000
def Wf (pl : List Nd) : Prop := ∀ (n : Nat) d,pl[n]? = some d → fitN d n
theorem lookR_wf {pl : List Nd} (hp : pl.length < 2000000) : ∀ (r : List Nd) (ws : List Int),r = pl.drop ws.length → (lookR pl r ws).2 = 0 → ∀ (n : Nat) d,ws.length ≤ n → pl[n]? = some d → fitN d n
  | [],ws,e,_,n,d,hn,hd => by
    have : pl.length ≤ ws.length := by
      have := congrArg List.length e;simp at this;omega
    have := (List.getElem?_eq_some_iff.mp hd).1
    omega
  | x :: r,ws,e,h,n,d,hn,hd => by
    unfold lookR at h
    have hx : pl[ws.length]? = some x := by
      have := congrArg (fun l => l[0]?) e
      simpa using this.symm
    have hr : r = pl.drop (ws.length + 1) := by
      have := congrArg List.tail e
      simpa [List.tail_drop] using this
    split at h
    · rename_i hs
      by_cases hc : n = ws.length
      · subst hc
        rw [hx] at hd
        cases hd
        exact step_ok (by have := (List.getElem?_eq_some_iff.mp hx).1;omega) hs
      · exact lookR_wf hp r (ws ++ [widthN x ws]) (by simpa using hr) h n d (by simp;omega) hd
    · exact absurd h ‹_›
theorem look_wf {pl : List Nd} (h : (lookN pl).2 = 0) : Wf pl := by
  unfold lookN at h
  split at h
  · cases h
  · rename_i hl
    simp [inI] at hl
    split at h
    · exact fun n d hd => lookR_wf (by omega) pl [] rfl h n d (by simp) hd
    · exact absurd h ‹_›
end Go.Proofs.Ytbcgenkegnmkhaa.Ev
namespace Go.Proofs.Ytbcgenkegnmkhaa.Ev
open Go
set_option maxRecDepth 100000
set_option linter.unusedSimpArgs false
set_option linter.unusedVariables false
set_option maxHeartbeats 2000000
def cmpI (a b : Int) : Int := if a < b then -1 else if b < a then 1 else 0
theorem e_nan (a : Int) : oc.call 141 [.int .i64 a] = some (.bool false,[]) := by
 refine fun_s rfl cd141 rfl rfl rfl (by simp;rfl) (by simp;rfl) ?_
 refine wa_ (wc_region (w_ (a_ (h:=wo_nil (e_ (h:=aft_normal (wa_ (wc_region (w_ (m_ (h:=w_ (m_ (h:=w_ (bE (h:=w_ (a_ (h:=wo_nil (e_ (h:=?_)))))))))))))))))))
 refine aft_normal (wc_ret (?_))
 all_goals (refine fin_ (hr:=(res_tmp rfl res_nil)) (h:=?_);(focus (first | (simp_all;done) | (simp_all <;> omega) | (simp_all <;> split <;> simp_all <;> omega))))
theorem e_cmp (a b : Int) : oc.call 124 [.int .i64 a,.int .i64 b] = some (.int .i64 (cmpI a b),[]) := by
 refine fun_s rfl cd124 rfl rfl rfl (by simp;rfl) (by simp;rfl) ?_
 refine wa_ (wc_region (w_ (a_ (h:=wo_nil (e_ (h:=aft_normal (wa_ (wc_region (w_ (m_ (h:=w_ (ca (hc:=e_nan _) (h:=w_ (a_ (h:=wo_nil (e_ (h:=aft_normal (?_))))))))))))))))))
 refine wa_ (wc_region (w_ (m_ (h:=w_ (ca (hc:=e_nan _) (h:=w_ (a_ (h:=wo_nil (e_ (h:=aft_normal (wa_ (wa_ (wc_region (w_ (m_ (h:=wo_nil (e_ (h:=?_))))))))))))))))))
 refine aft_normal (?_)
 refine c_ (h1:=?_) (h2:=?_)
 rotate_right 1
 focus
  intro c1
  first
  | exact dn c1
  | (
   have d1 := c1;try simp at d1
   refine wc_skip (?_)
   )
 rotate_right 1
 focus
  intro c1
  first
  | exact dn c1
  | (
   have d1 := c1;try simp at d1
   refine wa_ (wa_ (wc_region (w_ (m_ (h:=wo_nil (e_ (h:=aft_normal (?_))))))))
   refine c_ (h1:=?_) (h2:=?_)
   rotate_right 1
   focus
    intro c2
    first
    | exact dn c2
    | (
     have d2 := c2;try simp at d2
     refine wc_skip (?_)
     )
   rotate_right 1
   focus
    intro c2
    first
    | exact dn c2
    | (
     have d2 := c2;try simp at d2
     refine wa_ (wc_region (w_ (a_ (h:=wo_nil (e_ (h:=aft_normal (wc_ret (?_))))))))
     )
   all_goals first
   | refine aft_ret ?_
   | (
    refine aft_normal ?_
    refine wa_ (wc_region (w_ (a_ (h:=wo_nil (e_ (h:=aft_normal (wc_ret (?_))))))))
    )
   )
 all_goals first
 | refine aft_ret ?_
 | (
  refine aft_normal ?_
  refine wa_ (wa_ (wc_region (w_ (m_ (h:=wo_nil (e_ (h:=aft_normal (?_))))))))
  refine c_ (h1:=?_) (h2:=?_)
  rotate_right 1
  focus
   intro c3
   first
   | exact dn c3
   | (
    have d3 := c3;try simp at d3
    refine wc_skip (?_)
    )
  rotate_right 1
  focus
   intro c3
   first
   | exact dn c3
   | (
    have d3 := c3;try simp at d3
    refine wa_ (wc_region (w_ (a_ (h:=wo_nil (e_ (h:=aft_normal (wc_ret (?_))))))))
    )
  all_goals first
  | refine aft_ret ?_
  | (
   refine aft_normal ?_
   refine wa_ (wa_ (wc_region (w_ (m_ (h:=w_ (m_ (h:=w_ (b_ (h:=wo_nil (e_ (h:=aft_normal (?_))))))))))))
   refine c_ (h1:=?_) (h2:=?_)
   rotate_right 1
   focus
    intro c4
    first
    | exact dn c4
    | (
     have d4 := c4;try simp at d4
     refine wc_skip (?_)
     )
   rotate_right 1
   focus
    intro c4
    first
    | exact dn c4
    | (
     have d4 := c4;try simp at d4
     refine wa_ (wc_region (w_ (a_ (h:=wo_nil (e_ (h:=aft_normal (wc_ret (?_))))))))
     )
   all_goals first
   | refine aft_ret ?_
   | (
    refine aft_normal ?_
    refine wa_ (wa_ (wc_region (w_ (m_ (h:=w_ (m_ (h:=w_ (b_ (h:=wo_nil (e_ (h:=aft_normal (?_))))))))))))
    refine c_ (h1:=?_) (h2:=?_)
    rotate_right 1
    focus
     intro c5
     first
     | exact dn c5
     | (
      have d5 := c5;try simp at d5
      refine wc_skip (?_)
      )
    rotate_right 1
    focus
     intro c5
     first
     | exact dn c5
     | (
      have d5 := c5;try simp at d5
      refine wa_ (wc_region (w_ (a_ (h:=wo_nil (e_ (h:=aft_normal (wc_ret (?_))))))))
      )
    all_goals first
    | refine aft_ret ?_
    | (
     refine aft_normal ?_
     refine wa_ (wc_region (w_ (a_ (h:=wo_nil (e_ (h:=aft_normal (wc_ret (?_))))))))
     )
    )
   )
  )
 all_goals (refine fin_ (hr:=(res_tmp rfl res_nil)) (h:=?_);(focus (simp [cmpI];grind)))
end Go.Proofs.Ytbcgenkegnmkhaa.Ev
namespace Go.Proofs.Ytbcgenkegnmkhaa.Ev
open Go
set_option maxRecDepth 100000
set_option linter.unusedSimpArgs false
set_option linter.unusedVariables false
set_option maxHeartbeats 2000000
def rowF (r : List Int) : Int := if 4 < r.length then 2 else if r.all (fun c => inI c (-1000000000) 1000000000) = true then 0 else 3
theorem l_rowI (r : List Int) (hr : r.length ≤ 4) : ∀ i : Nat,(i ≤ r.length) → ∀ s,normE 1 (some [8,9,10]) s = ⟨[(8,.lst false 0 (ints r)),(9,.int .i64 r.length),(10,.int .i64 i)],[],1⟩ →
 oc.loop 131 4 s = some (if (r.drop i).all (fun c => inI c (-1000000000) 1000000000) = true then (.exit 0,⟨[],[],1⟩) else (.ret,⟨[(2,.int .i64 3)],[],1⟩)) := by
 refine loop_ind (σ:=Nat) (fun i => r.length - i) _ (fun i => ⟨[(8,.lst false 0 (ints r)),(9,.int .i64 r.length),(10,.int .i64 i)],[],1⟩) _ ?_
 intro i hi ih s hs
 refine loop_s cd131 rfl rfl hs ?_
 refine wa_ (wc_region (w_ (b_ (h:=wo_nil (e_ (h:=aft_normal (wa_ (?_))))))))
 refine c_ (h1:=?_) (h2:=?_)
 rotate_right 1
 focus
  intro c1
  first
  | exact dn c1
  | (
   have d1 := c1;try simp at d1
   refine wc_exit (?_)
   )
 rotate_right 1
 focus
  intro c1
  first
  | exact dn c1
  | (
   have d1 := c1;try simp at d1
   have hw := wrap_succ (i:=i) (by omega);obtain ⟨x,hx,e1,g1⟩ := ints_cut (l:=r) (i:=i) (by omega)
   refine wc_skip (?_)
   )
 all_goals first
 | refine aft_exit ?_
 | (
  refine aft_normal ?_
  refine wa_ (wc_block (wa_ (wc_region (w_ (x_ (h:=w_ (l_ (h:=w_ (a_ (h:=wo_nil (e_ (h:=aft_normal (wa_ (wc_region (w_ (m_ (h:=?_)))))))))))))))))
  refine w_ (ca (hc:=e_in _ _ _) (h:=w_ (u_ (h:=wo_nil (e_ (h:=aft_normal (?_)))))))
  refine c_ (h1:=?_) (h2:=?_)
  rotate_right 1
  focus
   intro c2
   first
   | exact dn c2
   | (
    have d2 := c2;try simp at d2
    refine wc_skip (?_)
    )
  rotate_right 1
  focus
   intro c2
   first
   | exact dn c2
   | (
    have d2 := c2;try simp at d2
    refine wa_ (wc_region (w_ (a_ (h:=wo_nil (e_ (h:=aft_normal (wc_ret (?_))))))))
    )
  all_goals first | refine blk_normal ?_ | refine blk_ret ?_
  all_goals first
  | refine aft_ret ?_
  | (
   refine aft_normal ?_
   refine wc_region (w_ (b_ (h:=w_ (m_ (h:=wo_nil (e_ (h:=?_)))))))
   )
  )
 all_goals first
 | (refine (ih (i + 1) (by omega) ?_ _ ?_).trans ?_;(focus (first | omega | (simp;done) | (simp;omega)));(focus (simp [normE,hw];done));(focus (rw [e1];simp [d2])))
 | (apply end_leaf (ex:=Ext.ret) 1 (some [2]);(focus (simp [normE];rfl));(focus (rw [e1];simp [d2])))
 | (apply end_leaf (ex:=(Ext.exit 0)) 1 (some [2]);(focus (simp [normE];rfl));(focus (rw [List.drop_eq_nil_of_le (by omega)];simp)))
theorem e_rowI (r : List Int) (h : r.length < 2000000) : oc.call 131 [.lst false 0 (ints r)] = some (.int .i64 (rowF r),[]) := by
 refine fun_s rfl cd131 rfl rfl rfl (by simp;rfl) (by simp;rfl) ?_
 refine wa_ (wc_region (w_ (a_ (h:=wo_nil (e_ (h:=aft_normal (wa_ (wa_ (wc_region (w_ (m_ (h:=w_ (le (h:=w_ (b_ (h:=wo_nil (e_ (h:=?_))))))))))))))))))
 refine aft_normal (?_)
 refine c_ (h1:=?_) (h2:=?_)
 rotate_right 1
 focus
  intro c1
  first
  | exact dn c1
  | (
   have d1 := c1;try simp at d1
   refine wc_skip (?_)
   )
 rotate_right 1
 focus
  intro c1
  first
  | exact dn c1
  | (
   have d1 := c1;try simp at d1
   refine wa_ (wc_region (w_ (a_ (h:=wo_nil (e_ (h:=aft_normal (wc_ret (?_))))))))
   )
 all_goals first
 | refine aft_ret ?_
 | (
  refine aft_normal ?_
  refine wa_ (wa_ (wc_region (w_ (m_ (h:=w_ (le (h:=w_ (m_ (h:=wo_nil (e_ (h:=aft_normal (wc_block (?_)))))))))))))
  refine wc_loopI (l_rowI r (by omega) 0 (by omega) _ (by simp [normE])) ?_ ?_
  rotate_right 1
  focus
   intro c2
   first
   | exact dn c2
   | (
    have d2 := c2;try simp at d2
    skip
    )
  rotate_right 1
  focus
   intro c2
   first
   | exact dn c2
   | (
    have d2 := c2;try simp at d2
    skip
    )
  all_goals first | refine blk_ret ?_ | refine blk_exit ?_
  all_goals first
  | refine aft_ret ?_
  | (
   refine aft_normal ?_
   refine wa_ (wc_region (w_ (a_ (h:=wo_nil (e_ (h:=aft_normal (wc_ret (?_))))))))
   )
  )
 all_goals (refine fin_ (hr:=(res_tmp rfl res_nil)) (h:=?_);(focus (simp [rowF];grind)))
theorem l_rowS (r : List Int) (hr : r.length ≤ 4) : ∀ i : Nat,(i ≤ r.length) → ∀ s,normE 1 (some [0,3]) s = ⟨[(0,.lst false 0 (ints r)),(3,.int .i64 i)],[],1⟩ →
 oc.loop 126 4 s = some (if (r.drop i).all (fun c => inI c (-1000000000) 1000000000) = true then (.exit 0,⟨[],[],1⟩) else (.ret,⟨[(2,.int .i64 3)],[],1⟩)) := by
 refine loop_ind (σ:=Nat) (fun i => r.length - i) _ (fun i => ⟨[(0,.lst false 0 (ints r)),(3,.int .i64 i)],[],1⟩) _ ?_
 intro i hi ih s hs
 refine loop_s cd126 rfl rfl hs ?_
 refine wa_ (wa_ (wc_region (w_ (m_ (h:=w_ (m_ (h:=w_ (le (h:=w_ (b_ (h:=wo_nil (e_ (h:=aft_normal (?_))))))))))))))
 refine c_ (h1:=?_) (h2:=?_)
 rotate_right 1
 focus
  intro c1
  first
  | exact dn c1
  | (
   have d1 := c1;try simp at d1
   refine wc_exit (?_)
   )
 rotate_right 1
 focus
  intro c1
  first
  | exact dn c1
  | (
   have d1 := c1;try simp at d1
   have hw := wrap_succ (i:=i) (by omega);obtain ⟨x,hx,e1,g1⟩ := ints_cut (l:=r) (i:=i) (by omega)
   refine wc_skip (?_)
   )
 all_goals first
 | refine aft_exit ?_
 | (
  refine aft_normal ?_
  refine wa_ (wc_block (wa_ (wc_region (w_ (m_ (h:=w_ (m_ (h:=w_ (x_ (h:=w_ (l_ (h:=w_ (ca (hc:=e_l1In _ _ _) (h:=w_ (u_ (h:=wo_nil (e_ (h:=aft_normal (?_)))))))))))))))))))
  refine c_ (h1:=?_) (h2:=?_)
  rotate_right 1
  focus
   intro c2
   first
   | exact dn c2
   | (
    have d2 := c2;try simp at d2
    refine wc_skip (?_)
    )
  rotate_right 1
  focus
   intro c2
   first
   | exact dn c2
   | (
    have d2 := c2;try simp at d2
    refine wa_ (wc_region (w_ (a_ (h:=wo_nil (e_ (h:=aft_normal (wc_ret (?_))))))))
    )
  all_goals first | refine blk_normal ?_ | refine blk_ret ?_
  all_goals first
  | refine aft_ret ?_
  | (
   refine aft_normal ?_
   refine wc_region (w_ (m_ (h:=w_ (b_ (h:=w_ (a_ (h:=wo_nil (e_ (h:=?_)))))))))
   )
  )
 all_goals first
 | (refine (ih (i + 1) (by omega) ?_ _ ?_).trans ?_;(focus (first | omega | (simp;done) | (simp;omega)));(focus (simp [normE,hw];done));(focus (rw [e1];simp [d2])))
 | (apply end_leaf (ex:=Ext.ret) 1 (some [2]);(focus (simp [normE];rfl));(focus (rw [e1];simp [d2])))
 | (apply end_leaf (ex:=(Ext.exit 0)) 1 (some [2]);(focus (simp [normE];rfl));(focus (rw [List.drop_eq_nil_of_le (by omega)];simp)))
theorem e_rowS (r : List Int) (h : r.length < 2000000) : oc.call 126 [.lst false 0 (ints r)] = some (.int .i64 (rowF r),[]) := by
 refine fun_s rfl cd126 rfl rfl rfl (by simp;rfl) (by simp;rfl) ?_
 refine wa_ (wc_region (w_ (a_ (h:=wo_nil (e_ (h:=aft_normal (wa_ (wa_ (wc_region (w_ (m_ (h:=w_ (le (h:=w_ (b_ (h:=wo_nil (e_ (h:=?_))))))))))))))))))
 refine aft_normal (?_)
 refine c_ (h1:=?_) (h2:=?_)
 rotate_right 1
 focus
  intro c1
  first
  | exact dn c1
  | (
   have d1 := c1;try simp at d1
   refine wc_skip (?_)
   )
 rotate_right 1
 focus
  intro c1
  first
  | exact dn c1
  | (
   have d1 := c1;try simp at d1
   refine wa_ (wc_region (w_ (a_ (h:=wo_nil (e_ (h:=aft_normal (wc_ret (?_))))))))
   )
 all_goals first
 | refine aft_ret ?_
 | (
  refine aft_normal ?_
  refine wa_ (wa_ (wc_region (w_ (a_ (h:=wo_nil (e_ (h:=aft_normal (wc_block (?_)))))))))
  refine wc_loopI (l_rowS r (by omega) 0 (by omega) _ (by simp [normE])) ?_ ?_
  rotate_right 1
  focus
   intro c2
   first
   | exact dn c2
   | (
    have d2 := c2;try simp at d2
    skip
    )
  rotate_right 1
  focus
   intro c2
   first
   | exact dn c2
   | (
    have d2 := c2;try simp at d2
    skip
    )
  all_goals first | refine blk_ret ?_ | refine blk_exit ?_
  all_goals first
  | refine aft_ret ?_
  | (
   refine aft_normal ?_
   refine wa_ (wc_region (w_ (a_ (h:=wo_nil (e_ (h:=aft_normal (wc_ret (?_))))))))
   )
  )
 all_goals (refine fin_ (hr:=(res_tmp rfl res_nil)) (h:=?_);(focus (simp [rowF];grind)))
def hashC (h c : Int) : Int := (IntKind.i64.wrap (IntKind.i64.wrap (h * 131) + (IntKind.i64.wrap (c.tmod 1000003 + 1000003)).tmod 1000003)).tmod 1000003
def hashN (r : List Int) : Int := r.foldl hashC 17
theorem l_hashI (r : List Int) (hr : r.length < 2000000) : ∀ x : Nat × Int,(x.1 ≤ r.length) → ∀ s,normE 1 (some [3,6,7,8]) s = ⟨[(3,.int .i64 x.2),(6,.lst false 0 (ints r)),(7,.int .i64 r.length),(8,.int .i64 x.1)],[],1⟩ →
 oc.loop 147 3 s = some (.exit 0,⟨[(3,.int .i64 ((r.drop x.1).foldl hashC x.2))],[],1⟩) := by
 refine loop_ind (σ:=Nat × Int) (fun x => r.length - x.1) _ (fun x => ⟨[(3,.int .i64 x.2),(6,.lst false 0 (ints r)),(7,.int .i64 r.length),(8,.int .i64 x.1)],[],1⟩) _ ?_
 rintro ⟨i,h⟩ hi ih s hs
 simp only at hi
 refine loop_s cd147 rfl rfl hs ?_
 refine wa_ (wc_region (w_ (b_ (h:=wo_nil (e_ (h:=aft_normal (wa_ (?_))))))))
 refine c_ (h1:=?_) (h2:=?_)
 rotate_right 1
 focus
  intro c1
  first
  | exact dn c1
  | (
   have d1 := c1;try simp at d1
   refine wc_exit (?_)
   )
 rotate_right 1
 focus
  intro c1
  first
  | exact dn c1
  | (
   have d1 := c1;try simp at d1
   have hw := wrap_succ (i:=i) (by omega);obtain ⟨x,hx,e1,g1⟩ := ints_cut (l:=r) (i:=i) (by omega)
   refine wc_skip (?_)
   )
 all_goals first
 | refine aft_exit ?_
 | (
  refine aft_normal ?_
  refine wa_ (wc_block (wa_ (wc_region (w_ (x_ (h:=w_ (l_ (h:=w_ (a_ (h:=wo_nil (e_ (h:=aft_normal (wc_region (w_ (m_ (h:=w_ (b_ (h:=?_))))))))))))))))))
  refine w_ (m_ (h:=w_ (b_ (h:=w_ (b_ (h:=w_ (b_ (h:=w_ (b_ (h:=w_ (b_ (h:=w_ (a_ (h:=wo_nil (e_ (h:=blk_normal (aft_normal (wc_region (w_ (b_ (h:=?_)))))))))))))))))))))
  refine w_ (m_ (h:=wo_nil (e_ (h:=?_))))
  )
 all_goals first
 | (refine (ih ((i + 1,hashC h x)) (by simp;omega) ?_ _ ?_).trans ?_;(focus (first | omega | (simp;done) | (simp;omega)));(focus (simp [normE,hw,hashC];done));(focus (simp only [e1,List.foldl_cons])))
 | (apply end_leaf (ex:=(Ext.exit 0)) 1 (some [3]);(focus (simp [normE];rfl));(focus (simp only [List.drop_eq_nil_of_le (show r.length ≤ i by omega),List.foldl_nil])))
theorem e_hashI (r : List Int) (h : r.length < 2000000) : oc.call 147 [.lst false 0 (ints r)] = some (.int .i64 (hashN r),[]) := by
 refine fun_s rfl cd147 rfl rfl rfl (by simp;rfl) (by simp;rfl) ?_
 refine wa_ (wc_region (w_ (a_ (h:=wo_nil (e_ (h:=aft_normal (wa_ (wc_region (w_ (a_ (h:=wo_nil (e_ (h:=aft_normal (wa_ (wa_ (?_))))))))))))))))
 refine wc_region (w_ (m_ (h:=w_ (le (h:=w_ (m_ (h:=wo_nil (e_ (h:=aft_normal (wc_block (?_)))))))))))
 refine wc_loop (l_hashI r h (0,17) (by simp) _ (by simp [normE])) ?_
 refine blk_exit (aft_normal (wa_ (wc_region (w_ (m_ (h:=w_ (a_ (h:=wo_nil (e_ (h:=aft_normal (wc_ret (?_))))))))))))
 all_goals (refine fin_ (hr:=(res_tmp rfl res_nil)) (h:=?_);(focus (simp [hashN])))
theorem l_hashS (r : List Int) (hr : r.length < 2000000) : ∀ x : Nat × Int,(x.1 ≤ r.length) → ∀ s,normE 1 (some [0,3,4]) s = ⟨[(0,.lst false 0 (ints r)),(3,.int .i64 x.2),(4,.int .i64 x.1)],[],1⟩ →
 oc.loop 151 3 s = some (.exit 0,⟨[(3,.int .i64 ((r.drop x.1).foldl hashC x.2))],[],1⟩) := by
 refine loop_ind (σ:=Nat × Int) (fun x => r.length - x.1) _ (fun x => ⟨[(0,.lst false 0 (ints r)),(3,.int .i64 x.2),(4,.int .i64 x.1)],[],1⟩) _ ?_
 rintro ⟨i,h⟩ hi ih s hs
 simp only at hi
 refine loop_s cd151 rfl rfl hs ?_
 refine wa_ (wa_ (wc_region (w_ (m_ (h:=w_ (m_ (h:=w_ (le (h:=w_ (b_ (h:=wo_nil (e_ (h:=aft_normal (?_))))))))))))))
 refine c_ (h1:=?_) (h2:=?_)
 rotate_right 1
 focus
  intro c1
  first
  | exact dn c1
  | (
   have d1 := c1;try simp at d1
   refine wc_exit (?_)
   )
 rotate_right 1
 focus
  intro c1
  first
  | exact dn c1
  | (
   have d1 := c1;try simp at d1
   have hw := wrap_succ (i:=i) (by omega);obtain ⟨x,hx,e1,g1⟩ := ints_cut (l:=r) (i:=i) (by omega)
   refine wc_skip (?_)
   )
 all_goals first
 | refine aft_exit ?_
 | (
  refine aft_normal ?_
  refine wa_ (wc_block (wa_ (wc_region (w_ (m_ (h:=w_ (m_ (h:=w_ (x_ (h:=w_ (l_ (h:=w_ (b_ (h:=w_ (b_ (h:=w_ (b_ (h:=w_ (a_ (h:=?_))))))))))))))))))))
  refine wo_nil (e_ (h:=aft_normal (wc_region (w_ (m_ (h:=w_ (b_ (h:=w_ (m_ (h:=w_ (b_ (h:=w_ (b_ (h:=w_ (a_ (h:=wo_nil (e_ (h:=blk_normal (aft_normal (?_))))))))))))))))))))
  refine wc_region (w_ (m_ (h:=w_ (b_ (h:=w_ (a_ (h:=wo_nil (e_ (h:=?_)))))))))
  )
 all_goals first
 | (refine (ih ((i + 1,hashC h x)) (by simp;omega) ?_ _ ?_).trans ?_;(focus (first | omega | (simp;done) | (simp;omega)));(focus (simp [normE,hw,hashC];done));(focus (simp only [e1,List.foldl_cons])))
 | (apply end_leaf (ex:=(Ext.exit 0)) 1 (some [3]);(focus (simp [normE];rfl));(focus (simp only [List.drop_eq_nil_of_le (show r.length ≤ i by omega),List.foldl_nil])))
theorem e_hashS (r : List Int) (h : r.length < 2000000) : oc.call 151 [.lst false 0 (ints r)] = some (.int .i64 (hashN r),[]) := by
 refine fun_s rfl cd151 rfl rfl rfl (by simp;rfl) (by simp;rfl) ?_
 refine wa_ (wc_region (w_ (a_ (h:=wo_nil (e_ (h:=aft_normal (wa_ (wc_region (w_ (a_ (h:=wo_nil (e_ (h:=aft_normal (wa_ (wa_ (?_))))))))))))))))
 refine wc_region (w_ (a_ (h:=wo_nil (e_ (h:=aft_normal (wc_block (?_)))))))
 refine wc_loop (l_hashS r h (0,17) (by simp) _ (by simp [normE])) ?_
 refine blk_exit (aft_normal (wa_ (wc_region (w_ (m_ (h:=w_ (a_ (h:=wo_nil (e_ (h:=aft_normal (wc_ret (?_))))))))))))
 all_goals (refine fin_ (hr:=(res_tmp rfl res_nil)) (h:=?_);(focus (simp [hashN])))
theorem hashC_in {h c : Int} (h0 : 0 ≤ h) (h1 : h < 1000003) : 0 ≤ hashC h c ∧ hashC h c < 1000003 := by
  unfold hashC
  have a1 : -1000003 < c.tmod 1000003 ∧ c.tmod 1000003 < 1000003 := ⟨by have := Int.lt_tmod_of_pos c (b:=1000003) (by decide);omega,Int.tmod_lt_of_pos c (by decide)⟩
  rw [wrap_id (a:=c.tmod 1000003 + 1000003) (by omega) (by omega),wrap_id (a:=h * 131) (by omega) (by omega)]
  generalize hq : (c.tmod 1000003 + 1000003).tmod 1000003 = q
  have a2 : 0 ≤ q ∧ q < 1000003 := by rw [← hq];exact ⟨Int.tmod_nonneg _ (by omega),Int.tmod_lt_of_pos _ (by decide)⟩
  rw [wrap_id (by omega) (by omega)]
  exact ⟨Int.tmod_nonneg _ (by omega),Int.tmod_lt_of_pos _ (by decide)⟩
theorem hashN_in (r : List Int) : 0 ≤ hashN r ∧ hashN r < 1000003 := by
  have : ∀ (r : List Int) (h : Int),0 ≤ h → h < 1000003 → 0 ≤ r.foldl hashC h ∧ r.foldl hashC h < 1000003 := by
    intro r
    induction r with
    | nil => intro h h0 h1;exact ⟨h0,h1⟩
    | cons c r ih => intro h h0 h1;exact ih _ (hashC_in h0 h1).1 (hashC_in h0 h1).2
  exact this r 17 (by decide) (by decide)
def shardN (m : Int) (r : List Int) (k : Int) : Int := (hashN (r.take k.toNat)).tmod m
theorem shardN_in {m : Int} {r : List Int} {k : Int} (hm : 0 < m) : 0 ≤ shardN m r k ∧ shardN m r k < m := by
  have := hashN_in (r.take k.toNat)
  exact ⟨Int.tmod_nonneg _ this.1,Int.tmod_lt_of_pos _ hm⟩
theorem e_shardI (m k : Int) (r : List Int) (h : r.length < 2000000) (hm : m ≠ 0) (h0 : 0 ≤ k) (h1 : k ≤ r.length) : oc.call 135 [.int .i64 m,.lst false 0 (ints r),.int .i64 k] = some (.int .i64 (shardN m r k),[]) := by
 refine fun_s rfl cd135 rfl rfl rfl (by simp;rfl) (by simp;rfl) ?_
 refine wa_ (wc_region (w_ (a_ (h:=wo_nil (e_ (h:=aft_normal (wa_ (wc_region (w_ (m_ (h:=w_ (m_ (h:=w_ (sl (h:=w_ (ca (hc:=e_hashI _ (by simp;omega)) (h:=w_ (m_ (h:=?_)))))))))))))))))))
 refine w_ (b_ (h:=w_ (a_ (h:=wo_nil (e_ (h:=aft_normal (wc_ret (?_))))))))
 all_goals (refine fin_ (hr:=(res_tmp rfl res_nil)) (h:=?_);(focus (simp [shardN])))
theorem e_shardS (m k : Int) (r : List Int) (h : r.length < 2000000) (hm : m ≠ 0) (h0 : 0 ≤ k) (h1 : k ≤ r.length) : oc.call 143 [.int .i64 m,.lst false 0 (ints r),.int .i64 k] = some (.int .i64 (shardN m r k),[]) := by
 refine fun_s rfl cd143 rfl rfl rfl (by simp;rfl) (by simp;rfl) ?_
 refine wa_ (wc_region (w_ (a_ (h:=wo_nil (e_ (h:=aft_normal (wa_ (wc_region (w_ (m_ (h:=w_ (m_ (h:=w_ (sl (h:=w_ (ca (hc:=e_hashS _ (by simp;omega)) (h:=w_ (m_ (h:=?_)))))))))))))))))))
 refine w_ (b_ (h:=w_ (a_ (h:=wo_nil (e_ (h:=aft_normal (wc_ret (?_))))))))
 all_goals (refine fin_ (hr:=(res_tmp rfl res_nil)) (h:=?_);(focus (simp [shardN])))
def widN (pl : List Nd) : List Int := (lookN pl).1
theorem lookR_good {pl : List Nd} (hk : okN pl) (hp : pl.length < 2000000) : ∀ (r : List Nd) (ws : List Int),r = pl.drop ws.length → Good pl ws → (∀ k : Nat,k < ws.length → 1 ≤ at0 ws k ∧ at0 ws k ≤ 4) → (lookR pl r ws).2 = 0 → Good pl (lookR pl r ws).1 ∧ (lookR pl r ws).1.length = max pl.length ws.length ∧ ∀ k : Nat,k < (lookR pl r ws).1.length → 1 ≤ at0 (lookR pl r ws).1 k ∧ at0 (lookR pl r ws).1 k ≤ 4
  | [],ws,e,G,hb,_ => by
    have : pl.length ≤ ws.length := by
      have := congrArg List.length e;simp at this;omega
    unfold lookR
    exact ⟨G,by simp;omega,hb⟩
  | d :: r,ws,e,G,hb,h => by
    unfold lookR at h ⊢
    have hx : pl[ws.length]? = some d := by
      have := congrArg (fun l => l[0]?) e
      simpa using this.symm
    have hlt := (List.getElem?_eq_some_iff.mp hx).1
    have hr : r = pl.drop (ws.length + 1) := by
      have := congrArg List.tail e
      simpa [List.tail_drop] using this
    split at h
    · rename_i hs
      rw [if_pos hs]
      have hf := step_ok (by omega) hs
      have hw : 1 ≤ widthN d ws ∧ widthN d ws ≤ 4 := by
        obtain ⟨f1,f2⟩ := hf
        have ha : d.op ≠ 1 → 1 ≤ at0 ws d.a ∧ at0 ws d.a ≤ 4 := fun ho => by
          have := f1 ho
          have := hb d.a.toNat (by omega)
          rwa [Int.toNat_of_nonneg (by omega)] at this
        have hb2 : d.op = 4 ∨ d.op = 6 → 1 ≤ at0 ws d.b ∧ at0 ws d.b ≤ 4 := fun ho => by
          have := f2 ho
          have := hb d.b.toNat (by omega)
          rwa [Int.toNat_of_nonneg (by omega)] at this
        have h0 : faultN d ws = 0 := by
          unfold stepC at hs
          split at hs
          · cases hs
          · split at hs
            · cases hs
            · split at hs
              · cases hs
              · exact hs
        unfold faultN at h0
        unfold widthN
        by_cases o1 : d.op = 1
        · rw [if_pos o1] at h0 ⊢
          simp [inI] at h0;omega
        · rw [if_neg o1] at h0 ⊢
          have ha := ha o1
          by_cases o2 : d.op = 2
          · rw [if_neg (by omega),if_neg (by omega),if_neg (by simp [inI];omega)];exact ha
          · rw [if_neg o2] at h0
            by_cases o3 : d.op = 3
            · rw [if_pos o3] at h0 ⊢
              have : inI d.cells.length 1 4 = true := by
                cases hi : inI d.cells.length 1 4 with
                | true => rfl
                | false => rw [hi] at h0;simp at h0
              simp [inI] at this;omega
            · rw [if_neg o3] at h0 ⊢
              by_cases o4 : d.op = 4
              · rw [if_neg (by omega),if_neg (by simp [inI];omega)];exact ha
              · rw [if_neg o4] at h0
                by_cases o6 : d.op = 6
                · have hb2 := hb2 (.inr o6)
                  rw [if_pos o6] at h0 ⊢
                  have w1 : IntKind.i64.wrap (at0 ws d.a + at0 ws d.b) = at0 ws d.a + at0 ws d.b := wrap_id (by omega) (by omega)
                  have hi : inI d.col 1 (min (at0 ws d.a) (at0 ws d.b)) = true := by
                    cases hi : inI d.col 1 (min (at0 ws d.a) (at0 ws d.b)) with
                    | true => rfl
                    | false => rw [hi] at h0;simp at h0
                  rw [hi,if_pos rfl] at h0
                  have hle : ¬ 4 < widthN d ws := fun hc => by rw [if_pos hc] at h0;cases h0
                  unfold widthN at hle
                  rw [if_neg o1,if_neg o3,if_pos o6] at hle
                  simp only [inI,Bool.and_eq_true,decide_eq_true_eq] at hi
                  have w2 : IntKind.i64.wrap (at0 ws d.a + at0 ws d.b - d.col) = at0 ws d.a + at0 ws d.b - d.col := wrap_id (by omega) (by omega)
                  rw [w1,w2] at hle ⊢
                  omega
                · rw [if_neg o6] at h0 ⊢
                  by_cases o7 : d.op = 7
                  · rw [if_pos o7] at h0
                    have hi : inI d.col 0 (min (at0 ws d.a) 3) = true := by
                      cases hi : inI d.col 0 (min (at0 ws d.a) 3) with
                      | true => rfl
                      | false => rw [hi] at h0;simp at h0
                    simp only [inI,Bool.and_eq_true,decide_eq_true_eq] at hi
                    rw [if_pos (by simp [inI];omega),wrap_id (by omega) (by omega)];omega
                  · rw [if_neg o7] at h0
                    by_cases o8 : 8 ≤ d.op ∧ d.op ≤ 10
                    · rw [if_pos o8] at h0
                      have hi : inI d.col 0 (IntKind.i64.wrap (at0 ws d.a - 1)) = true := by
                        cases hi : inI d.col 0 (IntKind.i64.wrap (at0 ws d.a - 1)) with
                        | true => rfl
                        | false => rw [hi] at h0;simp at h0
                      rw [wrap_id (by omega) (by omega)] at hi
                      simp only [inI,Bool.and_eq_true,decide_eq_true_eq] at hi
                      rw [if_pos (by simp [inI];omega),wrap_id (by omega) (by omega)];omega
                    · rw [if_neg (by simp [inI];omega)];exact ha
      have key := lookR_good hk hp r (ws ++ [widthN d ws]) (by simpa using hr) (good_snoc hk (by omega) G hx hs) (by
        intro k hk2
        by_cases hc : k < ws.length
        · have := hb k hc
          simp only [at0,List.getD_eq_getElem?_getD,List.getElem?_append_left (show (k : Int).toNat < ws.length by omega)] at this ⊢
          exact this
        · have : k = ws.length := by simp at hk2;omega
          subst this
          simpa [at0,List.getD_eq_getElem?_getD] using hw) h
      refine ⟨key.1,?_,key.2.2⟩
      rw [key.2.1];simp;omega
    · exact absurd h ‹_›
theorem look_good {pl : List Nd} (hk : okN pl) (h : (lookN pl).2 = 0) : Good pl (widN pl) ∧ (widN pl).length = pl.length ∧ (∀ k : Nat,k < pl.length → 1 ≤ at0 (widN pl) k ∧ at0 (widN pl) k ≤ 4) ∧ 1 ≤ pl.length ∧ pl.length ≤ 8 := by
  unfold widN
  unfold lookN at h ⊢
  split at h
  · cases h
  · rename_i hl
    rw [if_neg hl]
    simp [inI] at hl
    split at h
    · rename_i h0
      rw [if_pos h0]
      have := lookR_good hk (by omega) pl [] rfl (good_nil pl) (fun k hk => by simp at hk) h0
      have hlen : (lookR pl pl []).1.length = pl.length := by rw [this.2.1];simp
      exact ⟨this.1,hlen,fun k hk2 => this.2.2 k (by omega),by omega,by omega⟩
    · exact absurd h ‹_›
end Go.Proofs.Ytbcgenkegnmkhaa.Ev
namespace Go.Proofs.Ytbcgenkegnmkhaa.Ev
open Go
set_option maxRecDepth 100000
set_option linter.unusedSimpArgs false
set_option linter.unusedVariables false
set_option maxHeartbeats 2000000
theorem wid_at {pl : List Nd} (hk : okN pl) (h : (lookN pl).2 = 0) {a : Int} (h0 : 0 ≤ a) (h1 : a < pl.length) : 1 ≤ at0 (widN pl) a ∧ at0 (widN pl) a ≤ 4 := by
  have := (look_good hk h).2.2.1 a.toNat (by omega)
  rwa [Int.toNat_of_nonneg h0] at this
theorem nd_at {pl : List Nd} {a : Int} (h0 : 0 ≤ a) (h1 : a < pl.length) : ∃ d,pl[a.toNat]? = some d ∧ (nds false 0 pl)[a.toNat]? = some (d.v false 0) := by
  have : a.toNat < pl.length := by omega
  exact ⟨pl[a.toNat],by simp [this],by simp [nds,this]⟩
def ndAt (pl : List Nd) (a : Int) : Nd := (pl[a.toNat]?).getD ⟨0,0,0,0,0,0,[]⟩
theorem ndAt_of {pl : List Nd} {a : Int} {d : Nd} (h : pl[a.toNat]? = some d) : ndAt pl a = d := by simp [ndAt,h]
def nodeC (pl : List Nd) (a : Int) : Int := if (lookN pl).2 = 0 then (if inI a 0 ((pl.length : Int) - 1) = true then 0 else 3) else (lookN pl).2
theorem nodeC_zero {pl : List Nd} {a : Int} (h : nodeC pl a = 0) : (lookN pl).2 = 0 ∧ 0 ≤ a ∧ a < pl.length := by
  unfold nodeC at h;split at h
  · split at h
    · rename_i h1 h2;simp [inI] at h2;exact ⟨h1,by omega,by omega⟩
    · cases h
  · exact absurd h ‹_›
theorem e_nodeC (pl : List Nd) (a : Int) (hp : pl.length < 2000000) (hk : okN pl) : oc.call 105 [.lst false 0 (nds false 0 pl),.int .i64 a] = some (.tup [.lst true 1 (ints (widN pl)),.int .i64 (nodeC pl a)],[]) := by
 refine fun_s rfl cd105 rfl rfl rfl (by simp;rfl) (by simp;rfl) ?_
 have hw : IntKind.i64.wrap ((pl.length : Int) - 1) = pl.length - 1 := wrap_id (by omega) (by omega)
 refine wa_ (wc_region (w_ (aN (h:=w_ (a_ (h:=wo_nil (e_ (h:=aft_normal (wa_ (wc_region (w_ (m_ (h:=w_ (ca (hc:=e_looked pl hp hk) (h:=w_ (m_ (h:=w_ (ex (h:=?_)))))))))))))))))))
 refine w_ (ex (h:=w_ (a_ (h:=w_ (a_ (h:=wo_nil (e_ (h:=aft_normal (wa_ (wa_ (wc_region (w_ (m_ (h:=w_ (bE (h:=w_ (m_ (h:=?_))))))))))))))))))
 refine gw_ (h1:=?_) (h2:=?_)
 rotate_right 1
 focus
  intro c1
  first
  | exact dn c1
  | (
   have d1 := c1;try simp at d1
   refine go_ (h:=go_ (h:=go_ (h:=go_ (h:=go_ (h:=go_ (h:=?_))))))
   )
 rotate_right 1
 focus
  intro c1
  first
  | exact dn c1
  | (
   have d1 := c1;try simp at d1
   refine g_ (h:=w_ (m_ (h:=g_ (h:=w_ (m_ (h:=g_ (h:=w_ (ca (hc:=e_sizeN _ _ (by simp;omega)) (h:=g_ (h:=w_ (b_ (h:=g_ (h:=w_ (ca (hc:=e_in _ _ _) (h:=g_ (h:=w_ (u_ (h:=?_))))))))))))))))))
   )
 all_goals
  refine w_ (pk (h:=wo_nil (e_ (h:=?_))))
 all_goals first
 | (
  refine aft_normal ?_
  refine c_ (h1:=?_) (h2:=?_)
  rotate_right 1
  focus
   intro c2
   first
   | exact dn c2
   | (
    have d2 := c2;try simp at d2
    refine wc_skip (?_)
    )
  rotate_right 1
  focus
   intro c2
   first
   | exact dn c2
   | (
    have d2 := c2;try simp at d2
    refine wc_region (w_ (a_ (h:=wo_nil (e_ (h:=?_)))))
    )
  )
 all_goals first
 | (
  refine aft_normal ?_
  refine wa_ (wc_region (w_ (m_ (h:=w_ (m_ (h:=w_ (a_ (h:=w_ (a_ (h:=wo_nil (e_ (h:=aft_normal (wc_ret (?_))))))))))))))
  )
 all_goals (refine fin_ (hr:=(res_tmp rfl (res_tmp rfl res_nil))) (h:=?_);(focus (clear hk;simp [widN,nodeC,hw] at * <;> grind)))
theorem e_l3Asked (pl : List Nd) (a : Int) (hp : pl.length < 2000000) (hk : okN pl) : oc.call 99 [.lst false 0 (nds false 0 pl),.int .i64 a] = some (.int .i64 (nodeC pl a),[]) := by
 refine fun_s rfl cd99 rfl rfl rfl (by simp;rfl) (by simp;rfl) ?_
 have hw : IntKind.i64.wrap ((pl.length : Int) - 1) = pl.length - 1 := wrap_id (by omega) (by omega)
 refine wa_ (wc_region (w_ (a_ (h:=wo_nil (e_ (h:=aft_normal (wa_ (wa_ (wc_region (w_ (m_ (h:=w_ (ca (hc:=e_planS pl hp hk) (h:=w_ (a_ (h:=wo_nil (e_ (h:=?_))))))))))))))))))
 refine aft_normal (wa_ (wc_region (w_ (m_ (h:=w_ (bE (h:=wo_nil (e_ (h:=aft_normal (?_))))))))))
 refine c_ (h1:=?_) (h2:=?_)
 rotate_right 1
 focus
  intro c1
  first
  | exact dn c1
  | (
   have d1 := c1;try simp at d1
   refine wc_skip (?_)
   )
 rotate_right 1
 focus
  intro c1
  first
  | exact dn c1
  | (
   have d1 := c1;try simp at d1
   refine wa_ (wc_region (w_ (m_ (h:=w_ (a_ (h:=wo_nil (e_ (h:=aft_normal (wc_ret (?_))))))))))
   )
 all_goals first
 | refine aft_ret ?_
 | (
  refine aft_normal ?_
  refine wa_ (wa_ (wc_region (w_ (m_ (h:=w_ (m_ (h:=w_ (le (h:=w_ (b_ (h:=w_ (ca (hc:=e_l1In _ _ _) (h:=w_ (u_ (h:=wo_nil (e_ (h:=aft_normal (?_))))))))))))))))))
  refine c_ (h1:=?_) (h2:=?_)
  rotate_right 1
  focus
   intro c2
   first
   | exact dn c2
   | (
    have d2 := c2;try simp at d2
    refine wc_skip (?_)
    )
  rotate_right 1
  focus
   intro c2
   first
   | exact dn c2
   | (
    have d2 := c2;try simp at d2
    refine wa_ (wc_region (w_ (a_ (h:=wo_nil (e_ (h:=aft_normal (wc_ret (?_))))))))
    )
  all_goals first
  | refine aft_ret ?_
  | (
   refine aft_normal ?_
   refine wa_ (wc_region (w_ (a_ (h:=wo_nil (e_ (h:=aft_normal (wc_ret (?_))))))))
   )
  )
 all_goals (refine fin_ (hr:=(res_tmp rfl res_nil)) (h:=?_);(focus (clear hk;simp [nodeC,hw] at * <;> grind)))
def keyN (pl : List Nd) (a : Int) : Int := if (ndAt pl a).op = 1 ∨ 6 ≤ (ndAt pl a).op ∧ (ndAt pl a).op ≤ 10 then (ndAt pl a).col else at0 (widN pl) (ndAt pl a).a
theorem in_at {pl : List Nd} (hk : okN pl) (h : (lookN pl).2 = 0) {a : Int} {d : Nd} (h0 : 0 ≤ a) (hd : pl[a.toNat]? = some d) : (1 ≤ d.op ∧ d.op ≤ 12) ∧ (d.op ≠ 1 → 0 ≤ d.a ∧ d.a < a) ∧ (d.op = 4 ∨ d.op = 6 → 0 ≤ d.b ∧ d.b < a) := by
  have hw := look_wf h a.toNat d hd
  have : ∀ (r : List Nd) (ws : List Int),r = pl.drop ws.length → (lookR pl r ws).2 = 0 → ∀ (n : Nat) d,ws.length ≤ n → pl[n]? = some d → 1 ≤ d.op ∧ d.op ≤ 12 := by
    intro r
    induction r with
    | nil =>
      intro ws e _ n d hn hd
      have : pl.length ≤ ws.length := by have := congrArg List.length e;simp at this;omega
      have := (List.getElem?_eq_some_iff.mp hd).1
      omega
    | cons x r ih =>
      intro ws e h n d hn hd
      unfold lookR at h
      have hx : pl[ws.length]? = some x := by
        have := congrArg (fun l => l[0]?) e
        simpa using this.symm
      have hr : r = pl.drop (ws.length + 1) := by
        have := congrArg List.tail e
        simpa [List.tail_drop] using this
      split at h
      · rename_i hs
        by_cases hc : n = ws.length
        · subst hc
          rw [hx] at hd
          cases hd
          unfold stepC at hs
          split at hs
          · cases hs
          · rename_i h1
            simp [inI] at h1;omega
        · exact ih (ws ++ [widthN x ws]) (by simpa using hr) h n d (by simp;omega) hd
      · exact absurd h ‹_›
  have h2 : (lookR pl pl []).2 = 0 := by
    unfold lookN at h
    split at h
    · cases h
    · split at h
      · exact ‹_›
      · exact absurd h ‹_›
  have h3 := this pl [] rfl h2 a.toNat d (by simp) hd
  obtain ⟨f1,f2⟩ := hw
  exact ⟨h3,fun ho => by have := f1 ho;omega,fun ho => by have := f2 ho;omega⟩
theorem wid_in {pl : List Nd} (hk : okN pl) (h : (lookN pl).2 = 0) {a : Int} {d : Nd} (h0 : 0 ≤ a) (hd : pl[a.toNat]? = some d) (ho : d.op = 1) : at0 (widN pl) a = d.col := by
  have G := (look_good hk h).1
  have hl := (look_good hk h).2.1
  have hlt := (List.getElem?_eq_some_iff.mp hd).1
  obtain ⟨e,h1,h2,_⟩ := G a.toNat (by omega)
  rw [hd] at h1
  cases h1
  rw [Int.toNat_of_nonneg h0] at h2
  rw [h2,widthN,if_pos ho]
theorem e_keyI (pl : List Nd) (a : Int) (hp : pl.length < 2000000) (hk : okN pl) (hc : nodeC pl a = 0) : oc.call 136 [.lst false 0 (nds false 0 pl),.lst false 0 (ints (widN pl)),.int .i64 a] = some (.int .i64 (keyN pl a),[]) := by
 refine fun_s rfl cd136 rfl rfl rfl (by simp;rfl) (by simp;rfl) ?_
 obtain ⟨k1,k2,k3⟩ := nodeC_zero hc
 obtain ⟨d,hd,g1⟩ := nd_at k2 k3
 obtain ⟨⟨o1,o2⟩,o3,o4⟩ := in_at hk k1 k2 hd
 have hlw := (look_good hk k1).2.1
 have g2 := ints_ix (w:=widN pl) k2 (by omega)
 refine wa_ (wc_region (w_ (a_ (h:=wo_nil (e_ (h:=aft_normal (wa_ (wc_region (w_ (m_ (h:=w_ (m_ (h:=w_ (x_ (h:=w_ (l_ (h:=w_ (al (h:=?_)))))))))))))))))))
 refine w0 (s_ (h:=wo_nil (e_ (h:=aft_normal (wc_block (wa_ (wc_region (w_ (f_ (h:=w_ (l_ (h:=w_ (bE (h:=w_ (m_ (h:=?_))))))))))))))))
 refine gw_ (h1:=?_) (h2:=?_)
 rotate_right 1
 focus
  intro c1
  first
  | exact dn c1
  | (
   have d1 := c1;try simp at d1
   refine go_ (h:=go_ (h:=go_ (h:=?_)))
   )
 rotate_right 1
 focus
  intro c1
  first
  | exact dn c1
  | (
   have d1 := c1;try simp at d1
   refine g_ (h:=w_ (f_ (h:=g_ (h:=w_ (l_ (h:=g_ (h:=w_ (ca (hc:=e_grouped _) (h:=?_)))))))))
   )
 all_goals
  refine w_ (pk (h:=w_ (a_ (h:=wo_nil (e_ (h:=?_))))))
 all_goals first
 | (
  refine aft_normal ?_
  refine c_ (h1:=?_) (h2:=?_)
  rotate_right 1
  focus
   intro c2
   first
   | exact dn c2
   | (
    have d2 := c2;try simp at d2
    refine wa_ (wc_region (w_ (f_ (h:=w_ (l_ (h:=w_ (bE (h:=w_ (a_ (h:=wo_nil (e_ (h:=aft_normal (?_)))))))))))))
    refine c_ (h1:=?_) (h2:=?_)
    rotate_right 1
    focus
     intro c3
     first
     | exact dn c3
     | (
      have d3 := c3;try simp at d3
      have g3 := ints_ix (w:=widN pl) (o3 (by omega)).1 (by have := o3 (by omega);omega)
      refine wa_ (wc_region (w_ (m_ (h:=w_ (f_ (h:=w_ (l_ (h:=w_ (x_ (h:=w_ (l_ (h:=w_ (a_ (h:=wo_nil (e_ (h:=aft_normal (wc_ret (?_))))))))))))))))))
      )
    rotate_right 1
    focus
     intro c3
     first
     | exact dn c3
     | (
      have d3 := c3;try simp at d3
      refine wa_ (wc_region (w_ (m_ (h:=w_ (m_ (h:=w_ (x_ (h:=w_ (l_ (h:=w_ (a_ (h:=wo_nil (e_ (h:=aft_normal (wc_ret (?_))))))))))))))))
      )
    )
  rotate_right 1
  focus
   intro c2
   first
   | exact dn c2
   | (
    have d2 := c2;try simp at d2
    refine wa_ (wc_region (w_ (f_ (h:=w_ (l_ (h:=w_ (a_ (h:=wo_nil (e_ (h:=aft_normal (wc_ret (?_))))))))))))
    )
  )
 all_goals refine blk_ret ?_
 all_goals (refine fin_ (hr:=(res_tmp rfl res_nil)) (h:=?_);(focus (have hwi := wid_in hk k1 k2 hd;clear hk;simp only [keyN,ndAt_of hd];simp [inI] at * <;> grind)))
theorem e_keyS (pl : List Nd) (a : Int) (hp : pl.length < 2000000) (hk : okN pl) (hc : nodeC pl a = 0) : oc.call 144 [.lst false 0 (nds false 0 pl),.int .i64 a] = some (.int .i64 (keyN pl a),[]) := by
 refine fun_s rfl cd144 rfl rfl rfl (by simp;rfl) (by simp;rfl) ?_
 obtain ⟨k1,k2,k3⟩ := nodeC_zero hc
 obtain ⟨d,hd,g1⟩ := nd_at k2 k3
 obtain ⟨⟨o1,o2⟩,o3,o4⟩ := in_at hk k1 k2 hd
 have hlw := (look_good hk k1).2.1
 refine wa_ (wc_region (w_ (a_ (h:=wo_nil (e_ (h:=aft_normal (wa_ (wc_region (w_ (m_ (h:=w_ (m_ (h:=w_ (x_ (h:=w_ (l_ (h:=w_ (al (h:=?_)))))))))))))))))))
 refine w0 (s_ (h:=wo_nil (e_ (h:=aft_normal (wa_ (wa_ (wc_region (w_ (f_ (h:=w_ (l_ (h:=wo_nil (e_ (h:=aft_normal (wc_block (wa_ (?_)))))))))))))))))
 refine wa_ (wc_region (w_ (bE (h:=w_ (a_ (h:=wo_nil (e_ (h:=aft_normal (?_)))))))))
 refine c_ (h1:=?_) (h2:=?_)
 rotate_right 1
 focus
  intro c1
  first
  | exact dn c1
  | (
   have d1 := c1;try simp at d1
   refine wa_ (wc_region (w_ (bE (h:=w_ (a_ (h:=wo_nil (e_ (h:=aft_normal (?_)))))))))
   refine c_ (h1:=?_) (h2:=?_)
   rotate_right 1
   focus
    intro c2
    first
    | exact dn c2
    | (
     have d2 := c2;try simp at d2
     refine wa_ (wc_region (w_ (bE (h:=w_ (a_ (h:=wo_nil (e_ (h:=aft_normal (?_)))))))))
     refine c_ (h1:=?_) (h2:=?_)
     rotate_right 1
     focus
      intro c3
      first
      | exact dn c3
      | (
       have d3 := c3;try simp at d3
       refine wa_ (wc_region (w_ (bE (h:=w_ (a_ (h:=wo_nil (e_ (h:=aft_normal (?_)))))))))
       refine c_ (h1:=?_) (h2:=?_)
       rotate_right 1
       focus
        intro c4
        first
        | exact dn c4
        | (
         have d4 := c4;try simp at d4
         refine wa_ (wc_region (w_ (bE (h:=w_ (a_ (h:=wo_nil (e_ (h:=aft_normal (?_)))))))))
         refine c_ (h1:=?_) (h2:=?_)
         rotate_right 1
         focus
          intro c5
          first
          | exact dn c5
          | (
           have d5 := c5;try simp at d5
           refine wc_region (w_ (bE (h:=w_ (a_ (h:=wo_nil (e_ (h:=?_)))))))
           )
         rotate_right 1
         focus
          intro c5
          first
          | exact dn c5
          | (
           have d5 := c5;try simp at d5
           refine wc_skip (?_)
           )
         )
       rotate_right 1
       focus
        intro c4
        first
        | exact dn c4
        | (
         have d4 := c4;try simp at d4
         refine wc_skip (?_)
         )
       )
     rotate_right 1
     focus
      intro c3
      first
      | exact dn c3
      | (
       have d3 := c3;try simp at d3
       refine wc_skip (?_)
       )
     )
   rotate_right 1
   focus
    intro c2
    first
    | exact dn c2
    | (
     have d2 := c2;try simp at d2
     refine wc_skip (?_)
     )
   )
 rotate_right 1
 focus
  intro c1
  first
  | exact dn c1
  | (
   have d1 := c1;try simp at d1
   refine wc_skip (?_)
   )
 all_goals first
 | (
  refine aft_normal ?_
  refine c_ (h1:=?_) (h2:=?_)
  rotate_right 1
  focus
   intro c6
   first
   | exact dn c6
   | (
    have d6 := c6;try simp at d6
    refine wc_skip (?_)
    )
  rotate_right 1
  focus
   intro c6
   first
   | exact dn c6
   | (
    have d6 := c6;try simp at d6
    refine wa_ (wc_region (w_ (f_ (h:=w_ (l_ (h:=w_ (a_ (h:=wo_nil (e_ (h:=aft_normal (wc_ret (?_))))))))))))
    )
  )
 all_goals first | refine blk_normal ?_ | refine blk_ret ?_
 all_goals first
 | refine aft_ret ?_
 | (
  refine aft_normal ?_
  refine wa_ (wc_region (w_ (m_ (h:=w_ (f_ (h:=w_ (l_ (h:=w_ (ca (hc:=e_l3WidthI pl (widN pl) hp (look_good hk k1).1 _ (o3 (by omega)).1 (by have := o3 (by omega);omega)) (h:=w_ (a_ (h:=wo_nil (e_ (h:=aft_normal (wc_ret (?_))))))))))))))))
  )
 all_goals (refine fin_ (hr:=(res_tmp rfl res_nil)) (h:=?_);(focus (clear hk;simp only [keyN,ndAt_of hd];simp at * <;> grind)))
theorem lookR_pre (pl : List Nd) : ∀ (r : List Nd) (ws : List Int),(lookR pl r ws).1.take ws.length = ws
  | [],ws => by simp [lookR]
  | d :: r,ws => by
    unfold lookR
    split
    · have := lookR_pre pl r (ws ++ [widthN d ws])
      have h2 := congrArg (List.take ws.length) this
      rw [List.take_take,List.length_append,Nat.min_eq_left (by omega)] at h2
      rw [h2];simp
    · simp
theorem lookR_step {pl : List Nd} : ∀ (r : List Nd) (ws : List Int),r = pl.drop ws.length → (lookR pl r ws).2 = 0 → ∀ (n : Nat) d,ws.length ≤ n → pl[n]? = some d → stepC pl d ((lookR pl r ws).1.take n) = 0
  | [],ws,e,_,n,d,hn,hd => by
    have : pl.length ≤ ws.length := by have := congrArg List.length e;simp at this;omega
    have := (List.getElem?_eq_some_iff.mp hd).1
    omega
  | x :: r,ws,e,h,n,d,hn,hd => by
    have hx : pl[ws.length]? = some x := by
      have := congrArg (fun l => l[0]?) e
      simpa using this.symm
    have hr : r = pl.drop (ws.length + 1) := by
      have := congrArg List.tail e
      simpa [List.tail_drop] using this
    by_cases hs : stepC pl x ws = 0
    · have e2 : lookR pl (x :: r) ws = lookR pl r (ws ++ [widthN x ws]) := by rw [lookR,if_pos hs]
      rw [e2] at h ⊢
      by_cases hc : n = ws.length
      · subst hc
        rw [hx] at hd
        cases hd
        have h1 := lookR_pre pl r (ws ++ [widthN x ws])
        have h2 := congrArg (List.take ws.length) h1
        rw [List.take_take,List.length_append,Nat.min_eq_left (by omega)] at h2
        rw [h2];simpa using hs
      · exact lookR_step r (ws ++ [widthN x ws]) (by simpa using hr) h n d (by simp;omega) hd
    · rw [lookR,if_neg hs] at h
      exact absurd h hs
theorem look_step {pl : List Nd} (h : (lookN pl).2 = 0) {n : Nat} {d : Nd} (hd : pl[n]? = some d) : stepC pl d ((widN pl).take n) = 0 := by
  unfold widN
  unfold lookN at h ⊢
  split at h
  · cases h
  · rename_i hl
    rw [if_neg hl]
    split at h
    · rename_i h0
      rw [if_pos h0]
      exact lookR_step pl [] rfl h0 n d (by simp) hd
    · exact absurd h ‹_›
theorem step_fault {pl : List Nd} {d : Nd} {ws : List Int} (hs : stepC pl d ws = 0) : (1 ≤ d.op ∧ d.op ≤ 12) ∧ d = plainN d ∧ (readsN d).all (okR pl ws.length) = true ∧ faultN d ws = 0 := by
  unfold stepC at hs
  split at hs
  · cases hs
  · rename_i h1
    simp [inI] at h1
    split at hs
    · cases hs
    · rename_i h2
      split at hs
      · cases hs
      · rename_i h3
        exact ⟨by omega,by simpa using h2,by simpa using h3,hs⟩
theorem key_in {pl : List Nd} (hk : okN pl) {a : Int} (hc : nodeC pl a = 0) : 0 ≤ keyN pl a ∧ keyN pl a ≤ 4 := by
  obtain ⟨k1,k2,k3⟩ := nodeC_zero hc
  obtain ⟨d,hd,_⟩ := nd_at k2 k3
  obtain ⟨⟨o1,o2⟩,o3,o4⟩ := in_at hk k1 k2 hd
  have hl := (look_good hk k1)
  have hf := (step_fault (look_step k1 hd)).2.2.2
  have hA : d.op ≠ 1 → 1 ≤ at0 (widN pl) d.a ∧ at0 (widN pl) d.a ≤ 4 ∧ at0 ((widN pl).take a.toNat) d.a = at0 (widN pl) d.a := fun ho => by
    have := o3 ho
    have := wid_at hk k1 (a:=d.a) (by omega) (by omega)
    exact ⟨this.1,this.2,at0_take (by omega)⟩
  have hB : d.op = 4 ∨ d.op = 6 → 1 ≤ at0 (widN pl) d.b ∧ at0 (widN pl) d.b ≤ 4 ∧ at0 ((widN pl).take a.toNat) d.b = at0 (widN pl) d.b := fun ho => by
    have := o4 ho
    have := wid_at hk k1 (a:=d.b) (by omega) (by omega)
    exact ⟨this.1,this.2,at0_take (by omega)⟩
  simp only [keyN,ndAt_of hd]
  unfold faultN at hf
  by_cases c1 : d.op = 1
  · rw [if_pos c1] at hf
    rw [if_pos (.inl c1)]
    simp [inI] at hf;omega
  · have hA := hA c1
    rw [if_neg c1] at hf
    by_cases c2 : d.op = 2
    · rw [if_neg (by omega)];omega
    · rw [if_neg c2] at hf
      by_cases c3 : d.op = 3
      · rw [if_neg (by omega)];omega
      · rw [if_neg c3] at hf
        by_cases c4 : d.op = 4
        · rw [if_neg (by omega)];omega
        · rw [if_neg c4] at hf
          by_cases c6 : d.op = 6
          · have hB := hB (.inr c6)
            rw [if_pos c6] at hf
            rw [if_pos (by omega)]
            rw [hA.2.2,hB.2.2] at hf
            have hi : inI d.col 1 (min (at0 (widN pl) d.a) (at0 (widN pl) d.b)) = true := by
              cases hi : inI d.col 1 (min (at0 (widN pl) d.a) (at0 (widN pl) d.b)) with
              | true => rfl
              | false => rw [hi] at hf;simp at hf
            simp only [inI,Bool.and_eq_true,decide_eq_true_eq] at hi
            omega
          · rw [if_neg c6] at hf
            by_cases c7 : d.op = 7
            · rw [if_pos c7,hA.2.2] at hf
              rw [if_pos (by omega)]
              have hi : inI d.col 0 (min (at0 (widN pl) d.a) 3) = true := by
                cases hi : inI d.col 0 (min (at0 (widN pl) d.a) 3) with
                | true => rfl
                | false => rw [hi] at hf;simp at hf
              simp only [inI,Bool.and_eq_true,decide_eq_true_eq] at hi
              omega
            · rw [if_neg c7] at hf
              by_cases c8 : 8 ≤ d.op ∧ d.op ≤ 10
              · rw [if_pos c8,hA.2.2] at hf
                rw [if_pos (by omega)]
                have hi : inI d.col 0 (IntKind.i64.wrap (at0 (widN pl) d.a - 1)) = true := by
                  cases hi : inI d.col 0 (IntKind.i64.wrap (at0 (widN pl) d.a - 1)) with
                  | true => rfl
                  | false => rw [hi] at hf;simp at hf
                rw [wrap_id (by omega) (by omega)] at hi
                simp only [inI,Bool.and_eq_true,decide_eq_true_eq] at hi
                omega
              · rw [if_neg (by omega)];omega
def staysN (d : Nd) : Bool := decide (1 ≤ d.op ∧ d.op ≤ 5)
theorem e_linI (a : Int) : oc.call 146 [.int .i64 a] = some (.bool (inI a 1 5 || decide (a = 12)),[]) := by
 refine fun_s rfl cd146 rfl rfl rfl (by simp;rfl) (by simp;rfl) ?_
 refine wa_ (wc_region (w_ (a_ (h:=wo_nil (e_ (h:=aft_normal (wa_ (wa_ (wc_region (w_ (m_ (h:=wo_nil (e_ (h:=aft_normal (wc_block (?_))))))))))))))))
 refine wa_ (wa_ (wc_region (w_ (bE (h:=w_ (a_ (h:=wo_nil (e_ (h:=aft_normal (?_))))))))))
 refine c_ (h1:=?_) (h2:=?_)
 rotate_right 1
 focus
  intro c1
  first
  | exact dn c1
  | (
   have d1 := c1;try simp at d1
   refine wa_ (wc_region (w_ (bE (h:=w_ (a_ (h:=wo_nil (e_ (h:=aft_normal (?_)))))))))
   refine c_ (h1:=?_) (h2:=?_)
   rotate_right 1
   focus
    intro c2
    first
    | exact dn c2
    | (
     have d2 := c2;try simp at d2
     refine wa_ (wc_region (w_ (bE (h:=w_ (a_ (h:=wo_nil (e_ (h:=aft_normal (?_)))))))))
     refine c_ (h1:=?_) (h2:=?_)
     rotate_right 1
     focus
      intro c3
      first
      | exact dn c3
      | (
       have d3 := c3;try simp at d3
       refine wa_ (wc_region (w_ (bE (h:=w_ (a_ (h:=wo_nil (e_ (h:=aft_normal (?_)))))))))
       refine c_ (h1:=?_) (h2:=?_)
       rotate_right 1
       focus
        intro c4
        first
        | exact dn c4
        | (
         have d4 := c4;try simp at d4
         refine wa_ (wc_region (w_ (bE (h:=w_ (a_ (h:=wo_nil (e_ (h:=aft_normal (?_)))))))))
         refine c_ (h1:=?_) (h2:=?_)
         rotate_right 1
         focus
          intro c5
          first
          | exact dn c5
          | (
           have d5 := c5;try simp at d5
           refine wc_region (w_ (bE (h:=w_ (a_ (h:=wo_nil (e_ (h:=?_)))))))
           )
         rotate_right 1
         focus
          intro c5
          first
          | exact dn c5
          | (
           have d5 := c5;try simp at d5
           refine wc_skip (?_)
           )
         )
       rotate_right 1
       focus
        intro c4
        first
        | exact dn c4
        | (
         have d4 := c4;try simp at d4
         refine wc_skip (?_)
         )
       )
     rotate_right 1
     focus
      intro c3
      first
      | exact dn c3
      | (
       have d3 := c3;try simp at d3
       refine wc_skip (?_)
       )
     )
   rotate_right 1
   focus
    intro c2
    first
    | exact dn c2
    | (
     have d2 := c2;try simp at d2
     refine wc_skip (?_)
     )
   )
 rotate_right 1
 focus
  intro c1
  first
  | exact dn c1
  | (
   have d1 := c1;try simp at d1
   refine wc_skip (?_)
   )
 all_goals first
 | (
  refine aft_normal ?_
  refine c_ (h1:=?_) (h2:=?_)
  rotate_right 1
  focus
   intro c6
   first
   | exact dn c6
   | (
    have d6 := c6;try simp at d6
    refine wc_skip (?_)
    )
  rotate_right 1
  focus
   intro c6
   first
   | exact dn c6
   | (
    have d6 := c6;try simp at d6
    refine wa_ (wc_region (w_ (a_ (h:=wo_nil (e_ (h:=aft_normal (wc_ret (?_))))))))
    )
  )
 all_goals first | refine blk_normal ?_ | refine blk_ret ?_
 all_goals first
 | refine aft_ret ?_
 | (
  refine aft_normal ?_
  refine wa_ (wc_region (w_ (a_ (h:=wo_nil (e_ (h:=aft_normal (wc_ret (?_))))))))
  )
 all_goals (refine fin_ (hr:=(res_tmp rfl res_nil)) (h:=?_);(focus (simp [inI];omega)))
theorem e_linS (a : Int) : oc.call 150 [.int .i64 a] = some (.bool (inI a 1 5 || decide (a = 12)),[]) := by
 refine fun_s rfl cd150 rfl rfl rfl (by simp;rfl) (by simp;rfl) ?_
 refine wa_ (wc_region (w_ (a_ (h:=wo_nil (e_ (h:=aft_normal (wa_ (wc_region (w_ (m_ (h:=w_ (ca (hc:=e_l1In _ _ _) (h:=w_ (m_ (h:=?_)))))))))))))))
 refine gw_ (h1:=?_) (h2:=?_)
 rotate_right 1
 focus
  intro c1
  refine go_ (h:=go_ (h:=?_))
 rotate_right 1
 focus
  intro c1
  refine g_ (h:=w_ (m_ (h:=g_ (h:=w_ (bE (h:=?_))))))
 all_goals
  refine w_ (pk (h:=w_ (a_ (h:=wo_nil (e_ (h:=?_))))))
 all_goals first
 | (
  refine aft_normal ?_
  refine wc_ret (?_)
  )
 all_goals (refine fin_ (hr:=(res_tmp rfl res_nil)) (h:=?_);(focus (simp [inI] at * <;> grind)))
theorem e_staysI (d : Nd) : oc.call 134 [d.v false 0] = some (.bool (staysN d),[]) := by
 refine fun_s rfl cd134 rfl rfl rfl (by simp;rfl) (by simp;rfl) ?_
 refine wa_ (wc_region (w_ (bx (h:=w_ (a_ (h:=wo_nil (e_ (h:=aft_normal (wa_ (wc_region (w_ (f_ (h:=w_ (l_ (h:=w_ (ca (hc:=e_linI _) (h:=w_ (m_ (h:=?_)))))))))))))))))))
 refine gw_ (h1:=?_) (h2:=?_)
 rotate_right 1
 focus
  intro c1
  refine go_ (h:=go_ (h:=go_ (h:=?_)))
 rotate_right 1
 focus
  intro c1
  refine g_ (h:=w_ (f_ (h:=g_ (h:=w_ (l_ (h:=g_ (h:=w_ (bE (h:=?_)))))))))
 all_goals
  refine w_ (pk (h:=w_ (a_ (h:=wo_nil (e_ (h:=?_))))))
 all_goals first
 | (
  refine aft_normal ?_
  refine wc_ret (?_)
  )
 all_goals (refine fin_ (hr:=(res_tmp rfl res_nil)) (h:=?_);(focus (simp [staysN,inI] at * <;> grind)))
theorem e_staysS (d : Nd) : oc.call 142 [d.v false 0] = some (.bool (staysN d),[]) := by
 refine fun_s rfl cd142 rfl rfl rfl (by simp;rfl) (by simp;rfl) ?_
 refine wa_ (wc_region (w_ (bx (h:=w_ (a_ (h:=wo_nil (e_ (h:=aft_normal (wa_ (wc_region (w_ (f_ (h:=w_ (l_ (h:=w_ (ca (hc:=e_linS _) (h:=w_ (m_ (h:=?_)))))))))))))))))))
 refine gw_ (h1:=?_) (h2:=?_)
 rotate_right 1
 focus
  intro c1
  refine go_ (h:=go_ (h:=go_ (h:=?_)))
 rotate_right 1
 focus
  intro c1
  refine g_ (h:=w_ (f_ (h:=g_ (h:=w_ (l_ (h:=g_ (h:=w_ (bE (h:=?_)))))))))
 all_goals
  refine w_ (pk (h:=w_ (a_ (h:=wo_nil (e_ (h:=?_))))))
 all_goals first
 | (
  refine aft_normal ?_
  refine wc_ret (?_)
  )
 all_goals (refine fin_ (hr:=(res_tmp rfl res_nil)) (h:=?_);(focus (simp [staysN,inI] at * <;> grind)))
def routeC (pl : List Nd) (a m self : Int) : Int := if nodeC pl a = 0 then (if inI m 1 3 = true ∧ inI self 0 (m - 1) = true then 0 else 3) else nodeC pl a
theorem routeC_zero {pl : List Nd} {a m self : Int} (h : routeC pl a m self = 0) : nodeC pl a = 0 ∧ 1 ≤ m ∧ m ≤ 3 ∧ 0 ≤ self ∧ self < m := by
  unfold routeC at h;split at h
  · split at h
    · rename_i h1 h2;simp [inI] at h2;exact ⟨h1,by omega⟩
    · cases h
  · exact absurd h ‹_›
theorem e_routeI (pl : List Nd) (a m self : Int) (hp : pl.length < 2000000) (hk : okN pl) : oc.call 59 [.lst false 0 (nds false 0 pl),.int .i64 a,.int .i64 m,.int .i64 self] = some (.tup [.lst true 1 (ints (widN pl)),.int .i64 (routeC pl a m self)],[]) := by
 refine fun_s rfl cd59 rfl rfl rfl (by simp;rfl) (by simp;rfl) ?_
 have hw : 1 ≤ m → m ≤ 3 → IntKind.i64.wrap (m - 1) = m - 1 := (fun h1 h2 => wrap_id (by omega) (by omega))
 refine wa_ (wc_region (w_ (aN (h:=w_ (a_ (h:=wo_nil (e_ (h:=aft_normal (wa_ (wc_region (w_ (m_ (h:=w_ (m_ (h:=w_ (ca (hc:=e_nodeC pl a hp hk) (h:=w_ (m_ (h:=?_)))))))))))))))))))
 refine w_ (ex (h:=w_ (ex (h:=w_ (a_ (h:=w_ (a_ (h:=wo_nil (e_ (h:=aft_normal (wa_ (wa_ (wc_region (w_ (m_ (h:=w_ (bE (h:=w_ (m_ (h:=?_))))))))))))))))))))
 refine gw_ (h1:=?_) (h2:=?_)
 rotate_right 1
 focus
  intro c1
  first
  | exact dn c1
  | (
   have d1 := c1;try simp at d1
   refine go_ (h:=go_ (h:=go_ (h:=go_ (h:=?_))))
   )
 rotate_right 1
 focus
  intro c1
  first
  | exact dn c1
  | (
   have d1 := c1;try simp at d1
   refine g_ (h:=w_ (m_ (h:=g_ (h:=w_ (ca (hc:=e_in _ _ _) (h:=g_ (h:=w_ (u_ (h:=g_ (h:=w_ (m_ (h:=?_))))))))))))
   )
 all_goals
  first
  | (
   skip
   refine goN (h:=goN (h:=goN (h:=goN (h:=goN (h:=?_)))))
   )
  | (
   refine gw_ (h1:=?_) (h2:=?_)
   rotate_right 1
   focus
    intro c2
    first
    | exact dn c2
    | (
     have d2 := c2;try simp at d2
     refine go_ (h:=go_ (h:=go_ (h:=go_ (h:=go_ (h:=?_)))))
     )
   rotate_right 1
   focus
    intro c2
    first
    | exact dn c2
    | (
     have d2 := c2;try simp at d2
     refine g_ (h:=w_ (m_ (h:=g_ (h:=w_ (m_ (h:=g_ (h:=w_ (b_ (h:=g_ (h:=w_ (ca (hc:=e_in _ _ _) (h:=g_ (h:=w_ (u_ (h:=?_)))))))))))))))
     )
   )
  all_goals
   first
   | (
    skip
    refine g_ (h:=w_ (pk (h:=?_)))
    )
   | (
    skip
    refine go_ (h:=?_)
    )
   all_goals
    refine w_ (pk (h:=wo_nil (e_ (h:=?_))))
 all_goals first
 | (
  refine aft_normal ?_
  refine c_ (h1:=?_) (h2:=?_)
  rotate_right 1
  focus
   intro c3
   first
   | exact dn c3
   | (
    have d3 := c3;try simp at d3
    refine wc_skip (?_)
    )
  rotate_right 1
  focus
   intro c3
   first
   | exact dn c3
   | (
    have d3 := c3;try simp at d3
    refine wc_region (w_ (a_ (h:=wo_nil (e_ (h:=?_)))))
    )
  )
 all_goals first
 | (
  refine aft_normal ?_
  refine wa_ (wc_region (w_ (m_ (h:=w_ (m_ (h:=w_ (a_ (h:=w_ (a_ (h:=wo_nil (e_ (h:=aft_normal (wc_ret (?_))))))))))))))
  )
 all_goals (refine fin_ (hr:=(res_tmp rfl (res_tmp rfl res_nil))) (h:=?_);(focus (clear hk;simp [routeC,inI] at * <;> grind)))
theorem e_routeS (pl : List Nd) (a m self : Int) (hp : pl.length < 2000000) (hk : okN pl) : oc.call 52 [.lst false 0 (nds false 0 pl),.int .i64 a,.int .i64 m,.int .i64 self] = some (.int .i64 (routeC pl a m self),[]) := by
 refine fun_s rfl cd52 rfl rfl rfl (by simp;rfl) (by simp;rfl) ?_
 have hw : 1 ≤ m → m ≤ 3 → IntKind.i64.wrap (m - 1) = m - 1 := (fun h1 h2 => wrap_id (by omega) (by omega))
 refine wa_ (wc_region (w_ (a_ (h:=wo_nil (e_ (h:=aft_normal (wa_ (wa_ (wc_region (w_ (m_ (h:=w_ (m_ (h:=w_ (ca (hc:=e_l3Asked pl a hp hk) (h:=w_ (a_ (h:=?_))))))))))))))))))
 refine wo_nil (e_ (h:=aft_normal (wa_ (wc_region (w_ (m_ (h:=w_ (bE (h:=wo_nil (e_ (h:=aft_normal (?_))))))))))))
 refine c_ (h1:=?_) (h2:=?_)
 rotate_right 1
 focus
  intro c1
  first
  | exact dn c1
  | (
   have d1 := c1;try simp at d1
   refine wc_skip (?_)
   )
 rotate_right 1
 focus
  intro c1
  first
  | exact dn c1
  | (
   have d1 := c1;try simp at d1
   refine wa_ (wc_region (w_ (m_ (h:=w_ (a_ (h:=wo_nil (e_ (h:=aft_normal (wc_ret (?_))))))))))
   )
 all_goals first
 | refine aft_ret ?_
 | (
  refine aft_normal ?_
  refine wa_ (wa_ (wc_region (w_ (m_ (h:=w_ (ca (hc:=e_l1In _ _ _) (h:=w_ (u_ (h:=w_ (m_ (h:=?_)))))))))))
  refine gw_ (h1:=?_) (h2:=?_)
  rotate_right 1
  focus
   intro c2
   first
   | exact dn c2
   | (
    have d2 := c2;try simp at d2
    refine go_ (h:=go_ (h:=go_ (h:=go_ (h:=go_ (h:=?_)))))
    )
  rotate_right 1
  focus
   intro c2
   first
   | exact dn c2
   | (
    have d2 := c2;try simp at d2
    refine g_ (h:=w_ (m_ (h:=g_ (h:=w_ (m_ (h:=g_ (h:=w_ (b_ (h:=g_ (h:=w_ (ca (hc:=e_l1In _ _ _) (h:=g_ (h:=w_ (u_ (h:=?_)))))))))))))))
    )
  all_goals
   refine w_ (pk (h:=wo_nil (e_ (h:=?_))))
  all_goals first
  | (
   refine aft_normal ?_
   refine c_ (h1:=?_) (h2:=?_)
   rotate_right 1
   focus
    intro c3
    first
    | exact dn c3
    | (
     have d3 := c3;try simp at d3
     refine wc_skip (?_)
     )
   rotate_right 1
   focus
    intro c3
    first
    | exact dn c3
    | (
     have d3 := c3;try simp at d3
     refine wa_ (wc_region (w_ (a_ (h:=wo_nil (e_ (h:=aft_normal (wc_ret (?_))))))))
     )
   )
  all_goals first
  | refine aft_ret ?_
  | (
   refine aft_normal ?_
   refine wa_ (wc_region (w_ (a_ (h:=wo_nil (e_ (h:=aft_normal (wc_ret (?_))))))))
   )
  )
 all_goals (refine fin_ (hr:=(res_tmp rfl res_nil)) (h:=?_);(focus (clear hk;simp [routeC,inI] at * <;> grind)))
def dstN (pl : List Nd) (a m self : Int) (r : List Int) : Int := if staysN (ndAt pl a) = true then self else shardN m r (keyN pl a)
theorem dstN_in {pl : List Nd} {a m self : Int} {r : List Int} (h : routeC pl a m self = 0) : 0 ≤ dstN pl a m self r ∧ dstN pl a m self r < m := by
  obtain ⟨_,h1,h2,h3,h4⟩ := routeC_zero h
  unfold dstN
  split
  · omega
  · exact shardN_in (by omega)
theorem e_goI (pl : List Nd) (a m self : Int) (r : List Int) (hp : pl.length < 2000000) (hk : okN pl) (hc : routeC pl a m self = 0) (hr : r.length < 2000000) (hl : keyN pl a ≤ r.length) : oc.call 110 [.lst false 0 (nds false 0 pl),.lst false 0 (ints (widN pl)),.int .i64 a,.int .i64 m,.int .i64 self,.lst false 0 (ints r)] = some (.int .i64 (dstN pl a m self r),[]) := by
 refine fun_s rfl cd110 rfl rfl rfl (by simp;rfl) (by simp;rfl) ?_
 obtain ⟨k0,k4,k5,k6,k7⟩ := routeC_zero hc
 obtain ⟨k1,k2,k3⟩ := nodeC_zero k0
 obtain ⟨d,hd,g1⟩ := nd_at k2 k3
 have hkey := key_in hk k0
 refine wa_ (wc_region (w_ (a_ (h:=wo_nil (e_ (h:=aft_normal (wa_ (wa_ (wc_region (w_ (m_ (h:=w_ (m_ (h:=w_ (x_ (h:=w_ (l_ (h:=?_))))))))))))))))))
 refine w_ (ca (hc:=e_staysI d) (h:=wo_nil (e_ (h:=aft_normal (?_)))))
 refine c_ (h1:=?_) (h2:=?_)
 rotate_right 1
 focus
  intro c1
  first
  | exact dn c1
  | (
   have d1 := c1;try simp at d1
   refine wc_skip (?_)
   )
 rotate_right 1
 focus
  intro c1
  first
  | exact dn c1
  | (
   have d1 := c1;try simp at d1
   refine wa_ (wc_region (w_ (m_ (h:=w_ (a_ (h:=wo_nil (e_ (h:=aft_normal (wc_ret (?_))))))))))
   )
 all_goals first
 | refine aft_ret ?_
 | (
  refine aft_normal ?_
  refine wa_ (wc_region (w_ (m_ (h:=w_ (m_ (h:=w_ (m_ (h:=w_ (m_ (h:=w_ (m_ (h:=w_ (ca (hc:=e_keyI pl a hp hk k0) (h:=w_ (ca (hc:=e_shardI m _ r hr (by omega) hkey.1 hl) (h:=w_ (a_ (h:=wo_nil (e_ (h:=aft_normal (?_)))))))))))))))))))))
  refine wc_ret (?_)
  )
 all_goals (refine fin_ (hr:=(res_tmp rfl res_nil)) (h:=?_);(focus (clear hk;simp only [dstN,ndAt_of hd];simp [d1])))
theorem e_goS (pl : List Nd) (a m self : Int) (r : List Int) (hp : pl.length < 2000000) (hk : okN pl) (hc : routeC pl a m self = 0) (hr : r.length < 2000000) (hl : keyN pl a ≤ r.length) : oc.call 129 [.lst false 0 (nds false 0 pl),.int .i64 a,.int .i64 m,.int .i64 self,.lst false 0 (ints r)] = some (.int .i64 (dstN pl a m self r),[]) := by
 refine fun_s rfl cd129 rfl rfl rfl (by simp;rfl) (by simp;rfl) ?_
 obtain ⟨k0,k4,k5,k6,k7⟩ := routeC_zero hc
 obtain ⟨k1,k2,k3⟩ := nodeC_zero k0
 obtain ⟨d,hd,g1⟩ := nd_at k2 k3
 have hkey := key_in hk k0
 refine wa_ (wc_region (w_ (a_ (h:=wo_nil (e_ (h:=aft_normal (wa_ (wa_ (wc_region (w_ (m_ (h:=w_ (m_ (h:=w_ (x_ (h:=w_ (l_ (h:=?_))))))))))))))))))
 refine w_ (ca (hc:=e_staysS d) (h:=wo_nil (e_ (h:=aft_normal (?_)))))
 refine c_ (h1:=?_) (h2:=?_)
 rotate_right 1
 focus
  intro c1
  first
  | exact dn c1
  | (
   have d1 := c1;try simp at d1
   refine wc_skip (?_)
   )
 rotate_right 1
 focus
  intro c1
  first
  | exact dn c1
  | (
   have d1 := c1;try simp at d1
   refine wa_ (wc_region (w_ (m_ (h:=w_ (a_ (h:=wo_nil (e_ (h:=aft_normal (wc_ret (?_))))))))))
   )
 all_goals first
 | refine aft_ret ?_
 | (
  refine aft_normal ?_
  refine wa_ (wc_region (w_ (m_ (h:=w_ (m_ (h:=w_ (m_ (h:=w_ (m_ (h:=w_ (ca (hc:=e_keyS pl a hp hk k0) (h:=w_ (ca (hc:=e_shardS m _ r hr (by omega) hkey.1 hl) (h:=w_ (a_ (h:=wo_nil (e_ (h:=aft_normal (wc_ret (?_))))))))))))))))))))
  )
 all_goals (refine fin_ (hr:=(res_tmp rfl res_nil)) (h:=?_);(focus (clear hk;simp only [dstN,ndAt_of hd];simp [d1])))
end Go.Proofs.Ytbcgenkegnmkhaa.Ev
namespace Go.Proofs.Ytbcgenkegnmkhaa.Ev
open Go
set_option maxRecDepth 100000
set_option linter.unusedSimpArgs false
set_option linter.unusedVariables false
set_option maxHeartbeats 2000000
def cmpL : List Int → List Int → Int
  | [],[] => 0
  | [],_ :: _ => -1
  | _ :: _,[] => 1
  | a :: r,b :: s => if a < b then -1 else if b < a then 1 else cmpL r s
theorem cmpL_anti : ∀ (a b : List Int),cmpL a b = -cmpL b a
  | [],[] => rfl
  | [],_ :: _ => rfl
  | _ :: _,[] => rfl
  | a :: r,b :: s => by
    simp only [cmpL]
    rw [cmpL_anti r s]
    split <;> split <;> first | omega | rfl
theorem e_nanI (a : Int) : oc.call 152 [.int .i64 a] = some (.bool false,[]) := by
 refine fun_s rfl cd152 rfl rfl rfl (by simp;rfl) (by simp;rfl) ?_
 refine wa_ (wc_region (w_ (a_ (h:=wo_nil (e_ (h:=aft_normal (wa_ (wc_region (w_ (m_ (h:=w_ (m_ (h:=w_ (bE (h:=w_ (a_ (h:=wo_nil (e_ (h:=?_)))))))))))))))))))
 refine aft_normal (wc_ret (?_))
 all_goals (refine fin_ (hr:=(res_tmp rfl res_nil)) (h:=?_);(focus (first | (simp_all;done) | (simp_all <;> omega) | (simp_all <;> split <;> simp_all <;> omega))))
theorem e_cmpi (a b : Int) : oc.call 145 [.int .i64 a,.int .i64 b] = some (.int .i64 (cmpI a b),[]) := by
 refine fun_s rfl cd145 rfl rfl rfl (by simp;rfl) (by simp;rfl) ?_
 refine wa_ (wc_region (w_ (a_ (h:=wo_nil (e_ (h:=aft_normal (wa_ (wc_region (w_ (m_ (h:=w_ (ca (hc:=e_nanI _) (h:=w_ (a_ (h:=wo_nil (e_ (h:=aft_normal (?_))))))))))))))))))
 refine wa_ (wc_region (w_ (m_ (h:=w_ (ca (hc:=e_nanI _) (h:=w_ (a_ (h:=wo_nil (e_ (h:=aft_normal (wa_ (wa_ (wc_region (w_ (m_ (h:=wo_nil (e_ (h:=?_))))))))))))))))))
 refine aft_normal (?_)
 refine c_ (h1:=?_) (h2:=?_)
 rotate_right 1
 focus
  intro c1
  first
  | exact dn c1
  | (
   have d1 := c1;try simp at d1
   refine wc_skip (?_)
   )
 rotate_right 1
 focus
  intro c1
  first
  | exact dn c1
  | (
   have d1 := c1;try simp at d1
   refine wa_ (wa_ (wc_region (w_ (m_ (h:=wo_nil (e_ (h:=aft_normal (?_))))))))
   refine c_ (h1:=?_) (h2:=?_)
   rotate_right 1
   focus
    intro c2
    first
    | exact dn c2
    | (
     have d2 := c2;try simp at d2
     refine wc_skip (?_)
     )
   rotate_right 1
   focus
    intro c2
    first
    | exact dn c2
    | (
     have d2 := c2;try simp at d2
     refine wa_ (wc_region (w_ (a_ (h:=wo_nil (e_ (h:=aft_normal (wc_ret (?_))))))))
     )
   all_goals first
   | refine aft_ret ?_
   | (
    refine aft_normal ?_
    refine wa_ (wc_region (w_ (a_ (h:=wo_nil (e_ (h:=aft_normal (wc_ret (?_))))))))
    )
   )
 all_goals first
 | refine aft_ret ?_
 | (
  refine aft_normal ?_
  refine wa_ (wa_ (wc_region (w_ (m_ (h:=wo_nil (e_ (h:=aft_normal (?_))))))))
  refine c_ (h1:=?_) (h2:=?_)
  rotate_right 1
  focus
   intro c3
   first
   | exact dn c3
   | (
    have d3 := c3;try simp at d3
    refine wc_skip (?_)
    )
  rotate_right 1
  focus
   intro c3
   first
   | exact dn c3
   | (
    have d3 := c3;try simp at d3
    refine wa_ (wc_region (w_ (a_ (h:=wo_nil (e_ (h:=aft_normal (wc_ret (?_))))))))
    )
  all_goals first
  | refine aft_ret ?_
  | (
   refine aft_normal ?_
   refine wa_ (wa_ (wc_region (w_ (m_ (h:=w_ (m_ (h:=w_ (b_ (h:=wo_nil (e_ (h:=aft_normal (?_))))))))))))
   refine c_ (h1:=?_) (h2:=?_)
   rotate_right 1
   focus
    intro c4
    first
    | exact dn c4
    | (
     have d4 := c4;try simp at d4
     refine wc_skip (?_)
     )
   rotate_right 1
   focus
    intro c4
    first
    | exact dn c4
    | (
     have d4 := c4;try simp at d4
     refine wa_ (wc_region (w_ (a_ (h:=wo_nil (e_ (h:=aft_normal (wc_ret (?_))))))))
     )
   all_goals first
   | refine aft_ret ?_
   | (
    refine aft_normal ?_
    refine wa_ (wa_ (wc_region (w_ (m_ (h:=w_ (m_ (h:=w_ (b_ (h:=wo_nil (e_ (h:=aft_normal (?_))))))))))))
    refine c_ (h1:=?_) (h2:=?_)
    rotate_right 1
    focus
     intro c5
     first
     | exact dn c5
     | (
      have d5 := c5;try simp at d5
      refine wc_skip (?_)
      )
    rotate_right 1
    focus
     intro c5
     first
     | exact dn c5
     | (
      have d5 := c5;try simp at d5
      refine wa_ (wc_region (w_ (a_ (h:=wo_nil (e_ (h:=aft_normal (wc_ret (?_))))))))
      )
    all_goals first
    | refine aft_ret ?_
    | (
     refine aft_normal ?_
     refine wa_ (wc_region (w_ (a_ (h:=wo_nil (e_ (h:=aft_normal (wc_ret (?_))))))))
     )
    )
   )
  )
 all_goals (refine fin_ (hr:=(res_tmp rfl res_nil)) (h:=?_);(focus (simp [cmpI];grind)))
theorem cmpL_pre : ∀ {a b : List Int},a.take (min a.length b.length) = b.take (min a.length b.length) → cmpL a b = cmpI a.length b.length
  | [],[],_ => rfl
  | [],y :: s,_ => by simp [cmpL,cmpI] <;> omega
  | x :: r,[],_ => by simp [cmpL,cmpI] <;> omega
  | x :: r,y :: s,h => by
    have hm : min (x :: r).length (y :: s).length = min r.length s.length + 1 := by simp only [List.length_cons];omega
    rw [hm,List.take_succ_cons,List.take_succ_cons,List.cons.injEq] at h
    have := cmpL_pre h.2
    simp only [cmpL,h.1,Int.lt_irrefl,if_false,this,cmpI,List.length_cons]
    split <;> split <;> first | omega | (split <;> omega) | rfl
theorem cut2 {a b : List Int} {i : Nat} (h : i < min a.length b.length) : ∃ x y,a.drop i = x :: a.drop (i + 1) ∧ b.drop i = y :: b.drop (i + 1) ∧ (a.take (min a.length b.length)).drop i = x :: (a.take (min a.length b.length)).drop (i + 1) ∧ (b.take (min a.length b.length)).drop i = y :: (b.take (min a.length b.length)).drop (i + 1) ∧
    (ints a)[(i : Int).toNat]? = some (.int .i64 x) ∧ (ints b)[(i : Int).toNat]? = some (.int .i64 y) := by
  have h1 : i < a.length := by omega
  have h2 : i < b.length := by omega
  refine ⟨a[i],b[i],List.drop_eq_getElem_cons h1,List.drop_eq_getElem_cons h2,?_,?_,ints_at h1,ints_at h2⟩
  · rw [List.drop_eq_getElem_cons (by simp;omega)];simp
  · rw [List.drop_eq_getElem_cons (by simp;omega)];simp
theorem l_cmpI (a b : List Int) (ha : a.length < 2000000) (hb : b.length < 2000000) : ∀ i : Nat,(i ≤ min a.length b.length) → ∀ s,normE 2 (some [0,1,11,12]) s = ⟨[(0,.lst false 0 (ints a)),(1,.lst false 0 (ints b)),(11,.int .i64 (if (b.length : Int) < a.length then b.length else a.length)),(12,.int .i64 i)],[],2⟩ →
 oc.loop 132 2 s = some (if (a.take (min a.length b.length)).drop i = (b.take (min a.length b.length)).drop i then (.exit 0,⟨[(0,.lst false 0 (ints a)),(1,.lst false 0 (ints b))],[],2⟩) else (.ret,⟨[(0,.lst false 0 (ints a)),(1,.lst false 0 (ints b)),(4,.int .i64 (cmpL (a.drop i) (b.drop i)))],[],2⟩)) := by
 refine loop_ind (σ:=Nat) (fun i => min a.length b.length - i) _ (fun i => ⟨[(0,.lst false 0 (ints a)),(1,.lst false 0 (ints b)),(11,.int .i64 (if (b.length : Int) < a.length then b.length else a.length)),(12,.int .i64 i)],[],2⟩) _ ?_
 intro i hi ih s hs
 refine loop_s cd132 rfl rfl hs ?_
 have hmin : (if (b.length : Int) < a.length then (b.length : Int) else a.length) = (min a.length b.length : Nat) := by split <;> omega
 refine wa_ (wc_region (w_ (b_ (h:=wo_nil (e_ (h:=aft_normal (wa_ (?_))))))))
 refine c_ (h1:=?_) (h2:=?_)
 rotate_right 1
 focus
  intro c1
  first
  | exact dn c1
  | (
   have d1 := c1;try simp at d1
   have c9 := c1;rw [hmin] at c9;simp at c9;have hi2 : i = min a.length b.length := (by omega)
   refine wc_exit (?_)
   )
 rotate_right 1
 focus
  intro c1
  first
  | exact dn c1
  | (
   have d1 := c1;try simp at d1
   have c9 := c1;rw [hmin] at c9;simp at c9;have hw := wrap_succ (i:=i) (by omega);obtain ⟨x,y,e1,e2,e3,e4,g1,g2⟩ := cut2 (a:=a) (b:=b) (i:=i) (by omega)
   refine wc_skip (?_)
   )
 all_goals first
 | refine aft_exit ?_
 | (
  refine aft_normal ?_
  refine wa_ (wc_block (wa_ (wc_region (w_ (m_ (h:=w_ (a_ (h:=wo_nil (e_ (h:=aft_normal (wa_ (wc_draw (y_ (m_ (h:=ax_ (h:=y_ (m_ (h:=ax_ (h:=?_)))))))))))))))))))
  refine y_ (x_ (h:=ax_ (h:=y_ (l_ (h:=ax_ (h:=y_ (m_ (h:=ax_ (h:=y_ (m_ (h:=ax_ (h:=y_ (x_ (h:=ax_ (h:=y_ (l_ (h:=ax_ (h:=y_ (ca (hc:=e_cmp _ _) (h:=ax_ (h:=y_ (a_ (h:=ax_ (h:=wo_nil (ed (h:=aft_normal (wa_ (wc_region (?_)))))))))))))))))))))))))))))
  refine w_ (m_ (h:=w_ (bE (h:=wo_nil (e_ (h:=aft_normal (?_)))))))
  refine c_ (h1:=?_) (h2:=?_)
  rotate_right 1
  focus
   intro c2
   first
   | exact dn c2
   | (
    have d2 := c2;try simp at d2
    refine wc_skip (?_)
    )
  rotate_right 1
  focus
   intro c2
   first
   | exact dn c2
   | (
    have d2 := c2;try simp at d2
    refine wa_ (wc_region (w_ (m_ (h:=w_ (a_ (h:=wo_nil (e_ (h:=aft_normal (wc_ret (?_))))))))))
    )
  all_goals first | refine blk_normal ?_ | refine blk_ret ?_
  all_goals first
  | refine aft_ret ?_
  | (
   refine aft_normal ?_
   refine wc_region (w_ (b_ (h:=w_ (m_ (h:=wo_nil (e_ (h:=?_)))))))
   )
  )
 all_goals first
 | (refine (ih (i + 1) (by omega) ?_ _ ?_).trans ?_;(focus (first | omega | (simp;done) | (simp;omega)));(focus (simp [normE,hw];done));(focus (simp only [cmpI] at d2;have hxy : x = y := (by grind);rw [e1,e2,e3,e4];simp [hxy,cmpL])))
 | (apply end_leaf (ex:=Ext.ret) 2 (some [0,1,4]);(focus (simp [normE];rfl));(focus (rw [e1,e2,e3,e4];simp only [cmpI] at d2;have hxy : x ≠ y := (by grind);simp only [List.cons.injEq,hxy,false_and,if_false,cmpL,cmpI];grind)))
 | (apply end_leaf (ex:=(Ext.exit 0)) 2 (some [0,1,4]);(focus (simp [normE];rfl));(focus (rw [if_pos (by rw [List.drop_eq_nil_of_le (by simp;omega),List.drop_eq_nil_of_le (by simp;omega)])])))
theorem e_cmpRI (a b : List Int) (ha : a.length < 2000000) (hb : b.length < 2000000) : oc.call 132 [.lst false 0 (ints a),.lst false 0 (ints b)] = some (.int .i64 (cmpL a b),[]) := by
 refine fun_s rfl cd132 rfl rfl rfl (by simp;rfl) (by simp;rfl) ?_
 refine wa_ (wc_region (w_ (a_ (h:=wo_nil (e_ (h:=aft_normal (wa_ (wa_ (wc_region (w_ (m_ (h:=w_ (le (h:=w_ (m_ (h:=w_ (le (h:=?_))))))))))))))))))
 refine w_ (mi (h:=w_ (m_ (h:=wo_nil (e_ (h:=aft_normal (wc_block (?_))))))))
 refine wc_loopI (l_cmpI a b ha hb 0 (by omega) _ (by simp [normE])) ?_ ?_
 rotate_right 1
 focus
  intro c1
  skip
 rotate_right 1
 focus
  intro c1
  skip
 all_goals first | refine blk_ret ?_ | refine blk_exit ?_
 all_goals first
 | refine aft_ret ?_
 | (
  refine aft_normal ?_
  refine wa_ (wc_region (w_ (m_ (h:=w_ (le (h:=w_ (m_ (h:=w_ (le (h:=w_ (ca (hc:=e_cmpi _ _) (h:=w_ (a_ (h:=wo_nil (e_ (h:=aft_normal (wc_ret (?_))))))))))))))))))
  )
 all_goals (refine fin_ (hr:=(res_tmp rfl res_nil)) (h:=?_);(focus (first | (have h3 := cmpL_pre (a:=a) (b:=b) (by simpa using c1);simp [h3];done) | simp)))
theorem l_cmpS (a b : List Int) (ha : a.length < 2000000) (hb : b.length < 2000000) : ∀ i : Nat,(i ≤ min a.length b.length) → ∀ s,normE 2 (some [0,1,5]) s = ⟨[(0,.lst false 0 (ints a)),(1,.lst false 0 (ints b)),(5,.int .i64 i)],[],2⟩ →
 oc.loop 127 2 s = some (if (a.take (min a.length b.length)).drop i = (b.take (min a.length b.length)).drop i then (.exit 0,⟨[(0,.lst false 0 (ints a)),(1,.lst false 0 (ints b))],[],2⟩) else (.ret,⟨[(0,.lst false 0 (ints a)),(1,.lst false 0 (ints b)),(4,.int .i64 (cmpL (a.drop i) (b.drop i)))],[],2⟩)) := by
 refine loop_ind (σ:=Nat) (fun i => min a.length b.length - i) _ (fun i => ⟨[(0,.lst false 0 (ints a)),(1,.lst false 0 (ints b)),(5,.int .i64 i)],[],2⟩) _ ?_
 intro i hi ih s hs
 refine loop_s cd127 rfl rfl hs ?_
 refine wa_ (wa_ (wc_region (w_ (m_ (h:=w_ (m_ (h:=w_ (le (h:=w_ (b_ (h:=w_ (m_ (h:=?_)))))))))))))
 refine gw_ (h1:=?_) (h2:=?_)
 rotate_right 1
 focus
  intro c1
  first
  | exact dn c1
  | (
   have d1 := c1;try simp at d1
   refine go_ (h:=go_ (h:=go_ (h:=go_ (h:=?_))))
   )
 rotate_right 1
 focus
  intro c1
  first
  | exact dn c1
  | (
   have d1 := c1;try simp at d1
   refine g_ (h:=w_ (m_ (h:=g_ (h:=w_ (m_ (h:=g_ (h:=w_ (le (h:=g_ (h:=w_ (b_ (h:=?_))))))))))))
   )
 all_goals
  refine w_ (pk (h:=wo_nil (e_ (h:=?_))))
 all_goals first
 | (
  refine aft_normal ?_
  refine c_ (h1:=?_) (h2:=?_)
  rotate_right 1
  focus
   intro c2
   first
   | exact dn c2
   | (
    have d2 := c2;try simp at d2
    have hi2 : i = min a.length b.length := (by omega)
    refine wc_exit (?_)
    )
  rotate_right 1
  focus
   intro c2
   first
   | exact dn c2
   | (
    have d2 := c2;try simp at d2
    have hw := wrap_succ (i:=i) (by omega);obtain ⟨x,y,e1,e2,e3,e4,g1,g2⟩ := cut2 (a:=a) (b:=b) (i:=i) (by omega)
    refine wc_skip (?_)
    )
  )
 all_goals first
 | refine aft_exit ?_
 | (
  refine aft_normal ?_
  refine wa_ (wc_block (wa_ (wa_ (wc_draw (y_ (m_ (h:=ax_ (h:=y_ (m_ (h:=ax_ (h:=y_ (x_ (h:=ax_ (h:=y_ (l_ (h:=ax_ (h:=y_ (m_ (h:=ax_ (h:=y_ (m_ (h:=ax_ (h:=y_ (x_ (h:=ax_ (h:=?_))))))))))))))))))))))))))
  refine y_ (l_ (h:=ax_ (h:=y_ (b_ (h:=ax_ (h:=wo_nil (ed (h:=aft_normal (?_)))))))))
  refine c_ (h1:=?_) (h2:=?_)
  rotate_right 1
  focus
   intro c3
   first
   | exact dn c3
   | (
    have d3 := c3;try simp at d3
    refine wc_skip (?_)
    )
  rotate_right 1
  focus
   intro c3
   first
   | exact dn c3
   | (
    have d3 := c3;try simp at d3
    refine wa_ (wc_region (w_ (a_ (h:=wo_nil (e_ (h:=aft_normal (wc_ret (?_))))))))
    )
  all_goals first
  | refine aft_ret ?_
  | (
   refine aft_normal ?_
   refine wa_ (wc_draw (y_ (m_ (h:=ax_ (h:=y_ (m_ (h:=ax_ (h:=y_ (x_ (h:=ax_ (h:=y_ (l_ (h:=ax_ (h:=y_ (m_ (h:=ax_ (h:=y_ (m_ (h:=ax_ (h:=y_ (x_ (h:=ax_ (h:=y_ (l_ (h:=ax_ (h:=y_ (b_ (h:=ax_ (h:=wo_nil (ed (h:=?_)))))))))))))))))))))))))))))))
   refine aft_normal (?_)
   refine c_ (h1:=?_) (h2:=?_)
   rotate_right 1
   focus
    intro c4
    first
    | exact dn c4
    | (
     have d4 := c4;try simp at d4
     refine wc_skip (?_)
     )
   rotate_right 1
   focus
    intro c4
    first
    | exact dn c4
    | (
     have d4 := c4;try simp at d4
     refine wa_ (wc_region (w_ (a_ (h:=wo_nil (e_ (h:=aft_normal (wc_ret (?_))))))))
     )
   )
  all_goals first | refine blk_normal ?_ | refine blk_ret ?_
  all_goals first
  | refine aft_ret ?_
  | (
   refine aft_normal ?_
   refine wc_region (w_ (m_ (h:=w_ (b_ (h:=w_ (a_ (h:=wo_nil (e_ (h:=?_)))))))))
   )
  )
 all_goals first
 | (refine (ih (i + 1) (by omega) ?_ _ ?_).trans ?_;(focus (first | omega | (simp;done) | (simp;omega)));(focus (simp [normE,hw];done));(focus (have hxy : x = y := (by omega);rw [e1,e2,e3,e4];simp [hxy,cmpL])))
 | (apply end_leaf (ex:=Ext.ret) 2 (some [0,1,4]);(focus (simp [normE];rfl));(focus (have hxy : x ≠ y := (by omega);rw [e1,e2,e3,e4];simp only [List.cons.injEq,hxy,false_and,if_false,cmpL];rw [if_pos (by omega)])))
 | (apply end_leaf (ex:=Ext.ret) 2 (some [0,1,4]);(focus (simp [normE];rfl));(focus (have hxy : x ≠ y := (by omega);rw [e1,e2,e3,e4];simp only [List.cons.injEq,hxy,false_and,if_false,cmpL];rw [if_neg (by omega),if_pos (by omega)])))
 | (apply end_leaf (ex:=(Ext.exit 0)) 2 (some [0,1,4]);(focus (simp [normE];rfl));(focus (rw [if_pos (by rw [List.drop_eq_nil_of_le (by simp;omega),List.drop_eq_nil_of_le (by simp;omega)])])))
theorem e_cmpRS (a b : List Int) (ha : a.length < 2000000) (hb : b.length < 2000000) : oc.call 127 [.lst false 0 (ints a),.lst false 0 (ints b)] = some (.int .i64 (cmpL a b),[]) := by
 refine fun_s rfl cd127 rfl rfl rfl (by simp;rfl) (by simp;rfl) ?_
 refine wa_ (wc_region (w_ (a_ (h:=wo_nil (e_ (h:=aft_normal (wa_ (wa_ (wc_region (w_ (a_ (h:=wo_nil (e_ (h:=aft_normal (wc_block (?_))))))))))))))))
 refine wc_loopI (l_cmpS a b ha hb 0 (by omega) _ (by simp [normE])) ?_ ?_
 rotate_right 1
 focus
  intro c1
  first
  | exact dn c1
  | (
   have d1 := c1;try simp at d1
   skip
   )
 rotate_right 1
 focus
  intro c1
  first
  | exact dn c1
  | (
   have d1 := c1;try simp at d1
   skip
   )
 all_goals first | refine blk_ret ?_ | refine blk_exit ?_
 all_goals first
 | refine aft_ret ?_
 | (
  refine aft_normal ?_
  refine wa_ (wa_ (wc_region (w_ (m_ (h:=w_ (le (h:=w_ (m_ (h:=w_ (le (h:=w_ (b_ (h:=wo_nil (e_ (h:=aft_normal (?_))))))))))))))))
  refine c_ (h1:=?_) (h2:=?_)
  rotate_right 1
  focus
   intro c2
   first
   | exact dn c2
   | (
    have d2 := c2;try simp at d2
    refine wc_skip (?_)
    )
  rotate_right 1
  focus
   intro c2
   first
   | exact dn c2
   | (
    have d2 := c2;try simp at d2
    refine wa_ (wc_region (w_ (a_ (h:=wo_nil (e_ (h:=aft_normal (wc_ret (?_))))))))
    )
  all_goals first
  | refine aft_ret ?_
  | (
   refine aft_normal ?_
   refine wa_ (wa_ (wc_region (w_ (m_ (h:=w_ (le (h:=w_ (m_ (h:=w_ (le (h:=w_ (b_ (h:=wo_nil (e_ (h:=aft_normal (?_))))))))))))))))
   refine c_ (h1:=?_) (h2:=?_)
   rotate_right 1
   focus
    intro c3
    first
    | exact dn c3
    | (
     have d3 := c3;try simp at d3
     refine wc_skip (?_)
     )
   rotate_right 1
   focus
    intro c3
    first
    | exact dn c3
    | (
     have d3 := c3;try simp at d3
     refine wa_ (wc_region (w_ (a_ (h:=wo_nil (e_ (h:=aft_normal (wc_ret (?_))))))))
     )
   all_goals first
   | refine aft_ret ?_
   | (
    refine aft_normal ?_
    refine wa_ (wc_region (w_ (a_ (h:=wo_nil (e_ (h:=aft_normal (wc_ret (?_))))))))
    )
   )
  )
 all_goals (refine fin_ (hr:=(res_tmp rfl res_nil)) (h:=?_);(focus (first | (have h3 := cmpL_pre (a:=a) (b:=b) (by simpa using c1);simp [h3,cmpI];first | omega | grind) | (simp;done))))
def prevG {α : Type} (l : List α) (i : Nat) : Option α := if i = 0 then none else l[i - 1]?
theorem prevG_succ {α : Type} {l : List α} {i : Nat} {c : α} (h : l[i]? = some c) : prevG l (i + 1) = some c := by simp [prevG,h]
theorem prevE_pos {l : List Et} {i : Nat} (h0 : 0 < i) (h : i ≤ l.length) (hi : i < 2000000000) : ∃ q,q ∈ l ∧ prevG l i = some q ∧ (ets false l)[(IntKind.i64.wrap ((i : Int) - 1)).toNat]? = some (q.v false) ∧ 0 ≤ IntKind.i64.wrap ((i : Int) - 1) := by
  have hw : IntKind.i64.wrap ((i : Int) - 1) = ((i - 1 : Nat) : Int) := by rw [wrap_id (by omega) (by omega)];omega
  have hlt : i - 1 < l.length := by omega
  refine ⟨l[i - 1],List.getElem_mem hlt,?_,?_,by rw [hw];omega⟩
  · unfold prevG;rw [if_neg (by omega)];simp [hlt]
  · rw [hw];exact ets_at hlt
def wOk (n : Int) : Bool := inI n (-1000000000000) 1000000000000
def setR : Option Et → List Et → Int
  | _,[] => 0
  | p,e :: r => if rowF e.row = 0 then (if wOk e.w = false ∨ e.w = 0 then 3 else if (p.elim false fun q => decide (0 ≤ cmpL q.row e.row)) = true then 1 else setR (some e) r) else rowF e.row
def setC (z : List Et) : Int := if 200 < z.length then 2 else setR none z
theorem setR_row {p : Option Et} {e : Et} {r : List Et} (h : ¬ rowF e.row = 0) : setR p (e :: r) = rowF e.row := by rw [setR,if_neg h]
theorem setR_3 {p : Option Et} {e : Et} {r : List Et} (h : rowF e.row = 0) (h2 : wOk e.w = false ∨ e.w = 0) : setR p (e :: r) = 3 := by rw [setR,if_pos h,if_pos h2]
theorem setR_1 {p : Option Et} {e : Et} {r : List Et} (h : rowF e.row = 0) (h2 : ¬ (wOk e.w = false ∨ e.w = 0)) (h3 : (p.elim false fun q => decide (0 ≤ cmpL q.row e.row)) = true) : setR p (e :: r) = 1 := by rw [setR,if_pos h,if_neg h2,if_pos h3]
theorem setR_0 {p : Option Et} {e : Et} {r : List Et} (h : rowF e.row = 0) (h2 : ¬ (wOk e.w = false ∨ e.w = 0)) (h3 : ¬ (p.elim false fun q => decide (0 ≤ cmpL q.row e.row)) = true) : setR p (e :: r) = setR (some e) r := by rw [setR,if_pos h,if_neg h2,if_neg h3]
theorem l_setI (z : List Et) (hz : w_Ets z < 2000000) (hl : z.length ≤ 200) : ∀ i : Nat,(i ≤ z.length) → ∀ s,normE 1 (some [0,9,10,11]) s = ⟨[(0,.lst false 0 (ets false z)),(9,.lst false 0 (ets false z)),(10,.int .i64 z.length),(11,.int .i64 i)],[],1⟩ →
 oc.loop 106 4 s = some (if setR (prevG z i) (z.drop i) = 0 then (.exit 0,⟨[],[],1⟩) else (.ret,⟨[(2,.int .i64 (setR (prevG z i) (z.drop i)))],[],1⟩)) := by
 refine loop_ind (σ:=Nat) (fun i => z.length - i) _ (fun i => ⟨[(0,.lst false 0 (ets false z)),(9,.lst false 0 (ets false z)),(10,.int .i64 z.length),(11,.int .i64 i)],[],1⟩) _ ?_
 intro i hi ih s hs
 refine loop_s cd106 rfl rfl hs ?_
 refine wa_ (wc_region (w_ (b_ (h:=wo_nil (e_ (h:=aft_normal (wa_ (?_))))))))
 refine c_ (h1:=?_) (h2:=?_)
 rotate_right 1
 focus
  intro c1
  first
  | exact dn c1
  | (
   have d1 := c1;try simp at d1
   refine wc_exit (?_)
   )
 rotate_right 1
 focus
  intro c1
  first
  | exact dn c1
  | (
   have d1 := c1;try simp at d1
   have hw := wrap_succ (i:=i) (by omega);obtain ⟨c,hx,e1,g1⟩ := ets_cut (t:=false) (l:=z) (i:=i) (by omega);have hs1 := prevG_succ hx;have hm := w_Ets_mem (List.mem_of_getElem? hx);have hrow : c.row.length < 2000000 := (by unfold w_Et at hm;omega)
   refine wc_skip (?_)
   )
 all_goals first
 | refine aft_exit ?_
 | (
  refine aft_normal ?_
  refine wa_ (wc_block (wa_ (wc_region (w_ (m_ (h:=w_ (x_ (h:=w_ (l_ (h:=w_ (al (h:=w_ (a_ (h:=w0 (s_ (h:=wo_nil (e_ (h:=aft_normal (?_)))))))))))))))))))
  refine wa_ (wa_ (wc_region (w_ (f_ (h:=w_ (l_ (h:=w_ (ca (hc:=e_rowI c.row hrow) (h:=w_ (a_ (h:=wo_nil (e_ (h:=aft_normal (wa_ (wc_region (w_ (m_ (h:=?_))))))))))))))))))
  refine w_ (bE (h:=wo_nil (e_ (h:=aft_normal (?_)))))
  refine c_ (h1:=?_) (h2:=?_)
  rotate_right 1
  focus
   intro c2
   first
   | exact dn c2
   | (
    have d2 := c2;try simp at d2
    refine wc_skip (?_)
    )
  rotate_right 1
  focus
   intro c2
   first
   | exact dn c2
   | (
    have d2 := c2;try simp at d2
    refine wa_ (wc_region (w_ (m_ (h:=w_ (a_ (h:=wo_nil (e_ (h:=aft_normal (wc_ret (?_))))))))))
    )
  all_goals first
  | refine aft_ret ?_
  | (
   refine aft_normal ?_
   refine wa_ (wa_ (wc_region (w_ (f_ (h:=w_ (l_ (h:=w_ (ca (hc:=e_isWeight _) (h:=w_ (u_ (h:=w_ (m_ (h:=?_)))))))))))))
   refine gw_ (h1:=?_) (h2:=?_)
   rotate_right 1
   focus
    intro c3
    first
    | exact dn c3
    | (
     have d3 := c3;try simp at d3
     refine go_ (h:=go_ (h:=go_ (h:=?_)))
     )
   rotate_right 1
   focus
    intro c3
    first
    | exact dn c3
    | (
     have d3 := c3;try simp at d3
     refine g_ (h:=w_ (f_ (h:=g_ (h:=w_ (l_ (h:=g_ (h:=w_ (bE (h:=?_)))))))))
     )
   all_goals
    refine w_ (pk (h:=wo_nil (e_ (h:=?_))))
   all_goals first
   | (
    refine aft_normal ?_
    refine c_ (h1:=?_) (h2:=?_)
    rotate_right 1
    focus
     intro c4
     first
     | exact dn c4
     | (
      have d4 := c4;try simp at d4
      refine wc_skip (?_)
      )
    rotate_right 1
    focus
     intro c4
     first
     | exact dn c4
     | (
      have d4 := c4;try simp at d4
      refine wa_ (wc_region (w_ (a_ (h:=wo_nil (e_ (h:=aft_normal (wc_ret (?_))))))))
      )
    )
   all_goals first
   | refine aft_ret ?_
   | (
    refine aft_normal ?_
    refine wa_ (wc_draw (y_ (m_ (h:=ax_ (h:=y_ (b_ (h:=ax_ (h:=y_ (m_ (h:=ax_ (h:=?_)))))))))))
    refine gw_ (h1:=?_) (h2:=?_)
    rotate_right 1
    focus
     intro c5
     first
     | exact dn c5
     | (
      have d5 := c5;try simp at d5
      refine gd_ (h:=gd_ (h:=gd_ (h:=gd_ (h:=gd_ (h:=gd_ (h:=gd_ (h:=gd_ (h:=gd_ (h:=gd_ (h:=?_))))))))))
      )
    rotate_right 1
    focus
     intro c5
     first
     | exact dn c5
     | (
      have d5 := c5;try simp at d5
      obtain ⟨q,hqm,hq,g2,g3⟩ := prevE_pos (l:=z) (i:=i) (by omega) (by omega) (by omega);have hm2 := w_Ets_mem hqm;have hrow2 : q.row.length < 2000000 := (by unfold w_Et at hm2;omega)
      refine g_ (h:=y_ (m_ (h:=ax_ (h:=g_ (h:=y_ (m_ (h:=ax_ (h:=g_ (h:=y_ (b_ (h:=ax_ (h:=g_ (h:=y_ (x_ (h:=ax_ (h:=g_ (h:=y_ (f_ (h:=ax_ (h:=g_ (h:=y_ (l_ (h:=ax_ (h:=g_ (h:=y_ (f_ (h:=ax_ (h:=g_ (h:=y_ (l_ (h:=ax_ (h:=g_ (h:=y_ (ca (hc:=e_cmpRI q.row c.row hrow2 hrow) (h:=ax_ (h:=g_ (h:=y_ (b_ (h:=ax_ (h:=?_))))))))))))))))))))))))))))))))))))))))
      )
    all_goals
     refine y_ (pk (h:=ax_ (h:=wo_nil (ed (h:=?_)))))
    all_goals first
    | (
     refine aft_normal ?_
     refine c_ (h1:=?_) (h2:=?_)
     rotate_right 1
     focus
      intro c6
      first
      | exact dn c6
      | (
       have d6 := c6;try simp at d6
       refine wc_skip (?_)
       )
     rotate_right 1
     focus
      intro c6
      first
      | exact dn c6
      | (
       have d6 := c6;try simp at d6
       refine wa_ (wc_region (w_ (a_ (h:=wo_nil (e_ (h:=aft_normal (wc_ret (?_))))))))
       )
     )
    )
   )
  all_goals first | refine blk_normal ?_ | refine blk_ret ?_
  all_goals first
  | refine aft_ret ?_
  | (
   refine aft_normal ?_
   refine wc_region (w_ (b_ (h:=w_ (m_ (h:=wo_nil (e_ (h:=?_)))))))
   )
  )
 all_goals first
 | (refine (ih (i + 1) (by omega) ?_ _ ?_).trans ?_;(focus (first | omega | (simp;done) | (simp;omega)));(focus (simp [normE,hw];done));(focus (rw [hs1,e1,setR_0 d2 (by simp [wOk,d3,d4]) (by first | (rw [hq];simp;omega) | (subst d5;simp [prevG]))])))
 | (apply end_leaf (ex:=Ext.ret) 1 (some [2]);(focus (simp [normE];rfl));(focus (rw [e1,setR_row d2];simp [d2])))
 | (apply end_leaf (ex:=Ext.ret) 1 (some [2]);(focus (simp [normE];rfl));(focus (rw [e1,setR_3 d2 (by first | exact .inl d3 | exact .inr d4)];simp)))
 | (apply end_leaf (ex:=Ext.ret) 1 (some [2]);(focus (simp [normE];rfl));(focus (rw [e1,setR_1 d2 (by simp [wOk,d3,d4]) (by rw [hq];simp;omega)];simp)))
 | (apply end_leaf (ex:=(Ext.exit 0)) 1 (some [2]);(focus (simp [normE];rfl));(focus (rw [List.drop_eq_nil_of_le (by omega)];simp [setR])))
theorem e_setI (z : List Et) (hz : w_Ets z < 2000000) : oc.call 106 [.lst false 0 (ets false z)] = some (.int .i64 (setC z),[]) := by
 refine fun_s rfl cd106 rfl rfl rfl (by simp;rfl) (by simp;rfl) ?_
 refine wa_ (wc_region (w_ (a_ (h:=wo_nil (e_ (h:=aft_normal (wa_ (wa_ (wc_region (w_ (m_ (h:=w_ (le (h:=w_ (b_ (h:=wo_nil (e_ (h:=?_))))))))))))))))))
 refine aft_normal (?_)
 refine c_ (h1:=?_) (h2:=?_)
 rotate_right 1
 focus
  intro c1
  first
  | exact dn c1
  | (
   have d1 := c1;try simp at d1
   refine wc_skip (?_)
   )
 rotate_right 1
 focus
  intro c1
  first
  | exact dn c1
  | (
   have d1 := c1;try simp at d1
   refine wa_ (wc_region (w_ (a_ (h:=wo_nil (e_ (h:=aft_normal (wc_ret (?_))))))))
   )
 all_goals first
 | refine aft_ret ?_
 | (
  refine aft_normal ?_
  refine wa_ (wa_ (wc_region (w_ (m_ (h:=w_ (le (h:=w_ (m_ (h:=wo_nil (e_ (h:=aft_normal (wc_block (?_)))))))))))))
  refine wc_loopI (l_setI z hz (by omega) 0 (by omega) _ (by simp [normE])) ?_ ?_
  rotate_right 1
  focus
   intro c2
   first
   | exact dn c2
   | (
    have d2 := c2;try simp at d2
    skip
    )
  rotate_right 1
  focus
   intro c2
   first
   | exact dn c2
   | (
    have d2 := c2;try simp at d2
    skip
    )
  all_goals first | refine blk_ret ?_ | refine blk_exit ?_
  all_goals first
  | refine aft_ret ?_
  | (
   refine aft_normal ?_
   refine wa_ (wc_region (w_ (a_ (h:=wo_nil (e_ (h:=aft_normal (wc_ret (?_))))))))
   )
  )
 all_goals (refine fin_ (hr:=(res_tmp rfl res_nil)) (h:=?_);(focus (simp [setC,prevG] at * <;> grind)))
theorem l_setS (z : List Et) (hz : w_Ets z < 2000000) (hl : z.length ≤ 200) : ∀ i : Nat,(i ≤ z.length) → ∀ s,normE 1 (some [0,3]) s = ⟨[(0,.lst false 0 (ets false z)),(3,.int .i64 i)],[],1⟩ →
 oc.loop 100 4 s = some (if setR (prevG z i) (z.drop i) = 0 then (.exit 0,⟨[],[],1⟩) else (.ret,⟨[(2,.int .i64 (setR (prevG z i) (z.drop i)))],[],1⟩)) := by
 refine loop_ind (σ:=Nat) (fun i => z.length - i) _ (fun i => ⟨[(0,.lst false 0 (ets false z)),(3,.int .i64 i)],[],1⟩) _ ?_
 intro i hi ih s hs
 refine loop_s cd100 rfl rfl hs ?_
 refine wa_ (wa_ (wc_region (w_ (m_ (h:=w_ (m_ (h:=w_ (le (h:=w_ (b_ (h:=wo_nil (e_ (h:=aft_normal (?_))))))))))))))
 refine c_ (h1:=?_) (h2:=?_)
 rotate_right 1
 focus
  intro c1
  first
  | exact dn c1
  | (
   have d1 := c1;try simp at d1
   refine wc_exit (?_)
   )
 rotate_right 1
 focus
  intro c1
  first
  | exact dn c1
  | (
   have d1 := c1;try simp at d1
   have hw := wrap_succ (i:=i) (by omega);obtain ⟨c,hx,e1,g1⟩ := ets_cut (t:=false) (l:=z) (i:=i) (by omega);have hs1 := prevG_succ hx;have hm := w_Ets_mem (List.mem_of_getElem? hx);have hrow : c.row.length < 2000000 := (by unfold w_Et at hm;omega)
   refine wc_skip (?_)
   )
 all_goals first
 | refine aft_exit ?_
 | (
  refine aft_normal ?_
  refine wa_ (wc_block (wa_ (wa_ (wc_region (w_ (m_ (h:=w_ (m_ (h:=w_ (x_ (h:=w_ (f_ (h:=w_ (l_ (h:=w_ (ca (hc:=e_rowS c.row hrow) (h:=w_ (a_ (h:=?_)))))))))))))))))))
  refine wo_nil (e_ (h:=aft_normal (wa_ (wc_region (w_ (m_ (h:=w_ (bE (h:=wo_nil (e_ (h:=aft_normal (?_))))))))))))
  refine c_ (h1:=?_) (h2:=?_)
  rotate_right 1
  focus
   intro c2
   first
   | exact dn c2
   | (
    have d2 := c2;try simp at d2
    refine wc_skip (?_)
    )
  rotate_right 1
  focus
   intro c2
   first
   | exact dn c2
   | (
    have d2 := c2;try simp at d2
    refine wa_ (wc_region (w_ (m_ (h:=w_ (a_ (h:=wo_nil (e_ (h:=aft_normal (wc_ret (?_))))))))))
    )
  all_goals first
  | refine aft_ret ?_
  | (
   refine aft_normal ?_
   refine wa_ (wa_ (wc_region (w_ (m_ (h:=w_ (m_ (h:=w_ (x_ (h:=w_ (f_ (h:=w_ (l_ (h:=w_ (ca (hc:=e_l1Weight _) (h:=w_ (u_ (h:=w_ (m_ (h:=?_)))))))))))))))))))
   refine gw_ (h1:=?_) (h2:=?_)
   rotate_right 1
   focus
    intro c3
    first
    | exact dn c3
    | (
     have d3 := c3;try simp at d3
     refine go_ (h:=go_ (h:=go_ (h:=go_ (h:=go_ (h:=go_ (h:=?_))))))
     )
   rotate_right 1
   focus
    intro c3
    first
    | exact dn c3
    | (
     have d3 := c3;try simp at d3
     refine g_ (h:=w_ (m_ (h:=g_ (h:=w_ (m_ (h:=g_ (h:=w_ (x_ (h:=g_ (h:=w_ (f_ (h:=g_ (h:=w_ (l_ (h:=g_ (h:=w_ (bE (h:=?_))))))))))))))))))
     )
   all_goals
    refine w_ (pk (h:=wo_nil (e_ (h:=?_))))
   all_goals first
   | (
    refine aft_normal ?_
    refine c_ (h1:=?_) (h2:=?_)
    rotate_right 1
    focus
     intro c4
     first
     | exact dn c4
     | (
      have d4 := c4;try simp at d4
      refine wc_skip (?_)
      )
    rotate_right 1
    focus
     intro c4
     first
     | exact dn c4
     | (
      have d4 := c4;try simp at d4
      refine wa_ (wc_region (w_ (a_ (h:=wo_nil (e_ (h:=aft_normal (wc_ret (?_))))))))
      )
    )
   all_goals first
   | refine aft_ret ?_
   | (
    refine aft_normal ?_
    refine wa_ (wc_draw (y_ (m_ (h:=ax_ (h:=y_ (b_ (h:=ax_ (h:=y_ (m_ (h:=ax_ (h:=?_)))))))))))
    refine gw_ (h1:=?_) (h2:=?_)
    rotate_right 1
    focus
     intro c5
     first
     | exact dn c5
     | (
      have d5 := c5;try simp at d5
      refine gd_ (h:=gd_ (h:=gd_ (h:=gd_ (h:=gd_ (h:=gd_ (h:=gd_ (h:=gd_ (h:=gd_ (h:=gd_ (h:=gd_ (h:=gd_ (h:=?_))))))))))))
      refine gd_ (h:=?_)
      )
    rotate_right 1
    focus
     intro c5
     first
     | exact dn c5
     | (
      have d5 := c5;try simp at d5
      obtain ⟨q,hqm,hq,g2,g3⟩ := prevE_pos (l:=z) (i:=i) (by omega) (by omega) (by omega);have hm2 := w_Ets_mem hqm;have hrow2 : q.row.length < 2000000 := (by unfold w_Et at hm2;omega);have han := cmpL_anti c.row q.row
      refine g_ (h:=y_ (m_ (h:=ax_ (h:=g_ (h:=y_ (m_ (h:=ax_ (h:=g_ (h:=y_ (x_ (h:=ax_ (h:=g_ (h:=y_ (f_ (h:=ax_ (h:=g_ (h:=y_ (l_ (h:=ax_ (h:=g_ (h:=y_ (m_ (h:=ax_ (h:=g_ (h:=y_ (m_ (h:=ax_ (h:=g_ (h:=y_ (b_ (h:=ax_ (h:=g_ (h:=y_ (x_ (h:=ax_ (h:=g_ (h:=y_ (f_ (h:=ax_ (h:=g_ (h:=y_ (l_ (h:=ax_ (h:=g_ (h:=y_ (ca (hc:=e_cmpRS c.row q.row hrow hrow2) (h:=ax_ (h:=?_))))))))))))))))))))))))))))))))))))))))))))))))
      refine g_ (h:=y_ (b_ (h:=ax_ (h:=?_))))
      )
    all_goals
     refine y_ (pk (h:=ax_ (h:=wo_nil (ed (h:=?_)))))
    all_goals first
    | (
     refine aft_normal ?_
     refine c_ (h1:=?_) (h2:=?_)
     rotate_right 1
     focus
      intro c6
      first
      | exact dn c6
      | (
       have d6 := c6;try simp at d6
       refine wc_skip (?_)
       )
     rotate_right 1
     focus
      intro c6
      first
      | exact dn c6
      | (
       have d6 := c6;try simp at d6
       refine wa_ (wc_region (w_ (a_ (h:=wo_nil (e_ (h:=aft_normal (wc_ret (?_))))))))
       )
     )
    )
   )
  all_goals first | refine blk_normal ?_ | refine blk_ret ?_
  all_goals first
  | refine aft_ret ?_
  | (
   refine aft_normal ?_
   refine wc_region (w_ (m_ (h:=w_ (b_ (h:=w_ (a_ (h:=wo_nil (e_ (h:=?_)))))))))
   )
  )
 all_goals first
 | (refine (ih (i + 1) (by omega) ?_ _ ?_).trans ?_;(focus (first | omega | (simp;done) | (simp;omega)));(focus (simp [normE,hw];done));(focus (rw [hs1,e1,setR_0 d2 (by simp [wOk,d3,d4]) (by first | (rw [hq];simp;omega) | (subst d5;simp [prevG]))])))
 | (apply end_leaf (ex:=Ext.ret) 1 (some [2]);(focus (simp [normE];rfl));(focus (rw [e1,setR_row d2];simp [d2])))
 | (apply end_leaf (ex:=Ext.ret) 1 (some [2]);(focus (simp [normE];rfl));(focus (rw [e1,setR_3 d2 (by first | exact .inl d3 | exact .inr d4)];simp)))
 | (apply end_leaf (ex:=Ext.ret) 1 (some [2]);(focus (simp [normE];rfl));(focus (rw [e1,setR_1 d2 (by simp [wOk,d3,d4]) (by rw [hq];simp;omega)];simp)))
 | (apply end_leaf (ex:=(Ext.exit 0)) 1 (some [2]);(focus (simp [normE];rfl));(focus (rw [List.drop_eq_nil_of_le (by omega)];simp [setR])))
theorem e_setS (z : List Et) (hz : w_Ets z < 2000000) : oc.call 100 [.lst false 0 (ets false z)] = some (.int .i64 (setC z),[]) := by
 refine fun_s rfl cd100 rfl rfl rfl (by simp;rfl) (by simp;rfl) ?_
 refine wa_ (wc_region (w_ (a_ (h:=wo_nil (e_ (h:=aft_normal (wa_ (wa_ (wc_region (w_ (m_ (h:=w_ (le (h:=w_ (b_ (h:=wo_nil (e_ (h:=?_))))))))))))))))))
 refine aft_normal (?_)
 refine c_ (h1:=?_) (h2:=?_)
 rotate_right 1
 focus
  intro c1
  first
  | exact dn c1
  | (
   have d1 := c1;try simp at d1
   refine wc_skip (?_)
   )
 rotate_right 1
 focus
  intro c1
  first
  | exact dn c1
  | (
   have d1 := c1;try simp at d1
   refine wa_ (wc_region (w_ (a_ (h:=wo_nil (e_ (h:=aft_normal (wc_ret (?_))))))))
   )
 all_goals first
 | refine aft_ret ?_
 | (
  refine aft_normal ?_
  refine wa_ (wa_ (wc_region (w_ (a_ (h:=wo_nil (e_ (h:=aft_normal (wc_block (?_)))))))))
  refine wc_loopI (l_setS z hz (by omega) 0 (by omega) _ (by simp [normE])) ?_ ?_
  rotate_right 1
  focus
   intro c2
   first
   | exact dn c2
   | (
    have d2 := c2;try simp at d2
    skip
    )
  rotate_right 1
  focus
   intro c2
   first
   | exact dn c2
   | (
    have d2 := c2;try simp at d2
    skip
    )
  all_goals first | refine blk_ret ?_ | refine blk_exit ?_
  all_goals first
  | refine aft_ret ?_
  | (
   refine aft_normal ?_
   refine wa_ (wc_region (w_ (a_ (h:=wo_nil (e_ (h:=aft_normal (wc_ret (?_))))))))
   )
  )
 all_goals (refine fin_ (hr:=(res_tmp rfl res_nil)) (h:=?_);(focus (simp [setC,prevG] at * <;> grind)))
def widF (z : List Et) (k : Int) : Int := if setC z = 0 then (if z.all (fun e => decide ((e.row.length : Int) = k)) = true then 0 else 1) else setC z
theorem l_widI (z : List Et) (k : Int) (hz : w_Ets z < 2000000) : ∀ i : Nat,(i ≤ z.length) → ∀ s,normE 2 (some [1,13,14,15]) s = ⟨[(1,.int .i64 k),(13,.lst false 0 (ets false z)),(14,.int .i64 z.length),(15,.int .i64 i)],[],2⟩ →
 oc.loop 61 5 s = some (if (z.drop i).all (fun e => decide ((e.row.length : Int) = k)) = true then (.exit 0,⟨[],[],2⟩) else (.ret,⟨[(4,.int .i64 1)],[],2⟩)) := by
 refine loop_ind (σ:=Nat) (fun i => z.length - i) _ (fun i => ⟨[(1,.int .i64 k),(13,.lst false 0 (ets false z)),(14,.int .i64 z.length),(15,.int .i64 i)],[],2⟩) _ ?_
 intro i hi ih s hs
 refine loop_s cd61 rfl rfl hs ?_
 have hzl := w_Ets_len (l:=z)
 refine wa_ (wc_region (w_ (b_ (h:=wo_nil (e_ (h:=aft_normal (wa_ (?_))))))))
 refine c_ (h1:=?_) (h2:=?_)
 rotate_right 1
 focus
  intro c1
  first
  | exact dn c1
  | (
   have d1 := c1;try simp at d1
   refine wc_exit (?_)
   )
 rotate_right 1
 focus
  intro c1
  first
  | exact dn c1
  | (
   have d1 := c1;try simp at d1
   have hw := wrap_succ (i:=i) (by omega);obtain ⟨c,hx,e1,g1⟩ := ets_cut (t:=false) (l:=z) (i:=i) (by omega);have hm := w_Ets_mem (List.mem_of_getElem? hx);have hrow : c.row.length < 2000000 := (by unfold w_Et at hm;omega)
   refine wc_skip (?_)
   )
 all_goals first
 | refine aft_exit ?_
 | (
  refine aft_normal ?_
  refine wa_ (wc_block (wa_ (wc_region (w_ (x_ (h:=w_ (l_ (h:=w_ (al (h:=w0 (s_ (h:=wo_nil (e_ (h:=aft_normal (wa_ (wc_region (?_)))))))))))))))))
  refine w_ (f_ (h:=w_ (l_ (h:=w_ (ca (hc:=e_size 0 (ints c.row) (by simp;omega)) (h:=w_ (m_ (h:=w_ (bE (h:=wo_nil (e_ (h:=aft_normal (?_)))))))))))))
  refine c_ (h1:=?_) (h2:=?_)
  rotate_right 1
  focus
   intro c2
   first
   | exact dn c2
   | (
    have d2 := c2;try simp at d2
    refine wc_skip (?_)
    )
  rotate_right 1
  focus
   intro c2
   first
   | exact dn c2
   | (
    have d2 := c2;try simp at d2
    refine wa_ (wc_region (w_ (a_ (h:=wo_nil (e_ (h:=aft_normal (wc_ret (?_))))))))
    )
  all_goals first | refine blk_normal ?_ | refine blk_ret ?_
  all_goals first
  | refine aft_ret ?_
  | (
   refine aft_normal ?_
   refine wc_region (w_ (b_ (h:=w_ (m_ (h:=wo_nil (e_ (h:=?_)))))))
   )
  )
 all_goals first
 | (refine (ih (i + 1) (by omega) ?_ _ ?_).trans ?_;(focus (first | omega | (simp;done) | (simp;omega)));(focus (simp [normE,hw];done));(focus (rw [e1];simp [d2])))
 | (apply end_leaf (ex:=Ext.ret) 2 (some [4]);(focus (simp [normE];rfl));(focus (rw [e1];simp [d2])))
 | (apply end_leaf (ex:=(Ext.exit 0)) 2 (some [4]);(focus (simp [normE];rfl));(focus (rw [List.drop_eq_nil_of_le (by omega)];simp)))
theorem e_widI (z : List Et) (k : Int) (hz : w_Ets z < 2000000) : oc.call 61 [.lst false 0 (ets false z),.int .i64 k] = some (.int .i64 (widF z k),[]) := by
 refine fun_s rfl cd61 rfl rfl rfl (by simp;rfl) (by simp;rfl) ?_
 refine wa_ (wc_region (w_ (a_ (h:=wo_nil (e_ (h:=aft_normal (wa_ (wa_ (wc_region (w_ (m_ (h:=w_ (ca (hc:=e_setI z hz) (h:=w_ (a_ (h:=wo_nil (e_ (h:=?_))))))))))))))))))
 refine aft_normal (wa_ (wc_region (w_ (m_ (h:=w_ (bE (h:=wo_nil (e_ (h:=aft_normal (?_))))))))))
 refine c_ (h1:=?_) (h2:=?_)
 rotate_right 1
 focus
  intro c1
  first
  | exact dn c1
  | (
   have d1 := c1;try simp at d1
   refine wc_skip (?_)
   )
 rotate_right 1
 focus
  intro c1
  first
  | exact dn c1
  | (
   have d1 := c1;try simp at d1
   refine wa_ (wc_region (w_ (m_ (h:=w_ (a_ (h:=wo_nil (e_ (h:=aft_normal (wc_ret (?_))))))))))
   )
 all_goals first
 | refine aft_ret ?_
 | (
  refine aft_normal ?_
  refine wa_ (wa_ (wc_region (w_ (m_ (h:=w_ (le (h:=w_ (m_ (h:=wo_nil (e_ (h:=aft_normal (wc_block (?_)))))))))))))
  refine wc_loopI (l_widI z k hz 0 (by omega) _ (by simp [normE])) ?_ ?_
  rotate_right 1
  focus
   intro c2
   first
   | exact dn c2
   | (
    have d2 := c2;try simp at d2
    skip
    )
  rotate_right 1
  focus
   intro c2
   first
   | exact dn c2
   | (
    have d2 := c2;try simp at d2
    skip
    )
  all_goals first | refine blk_ret ?_ | refine blk_exit ?_
  all_goals first
  | refine aft_ret ?_
  | (
   refine aft_normal ?_
   refine wa_ (wc_region (w_ (a_ (h:=wo_nil (e_ (h:=aft_normal (wc_ret (?_))))))))
   )
  )
 all_goals (refine fin_ (hr:=(res_tmp rfl res_nil)) (h:=?_);(focus (simp [widF] at * <;> grind)))
theorem l_widS (z : List Et) (k : Int) (hz : w_Ets z < 2000000) : ∀ i : Nat,(i ≤ z.length) → ∀ s,normE 2 (some [0,1,6]) s = ⟨[(0,.lst false 0 (ets false z)),(1,.int .i64 k),(6,.int .i64 i)],[],2⟩ →
 oc.loop 54 5 s = some (if (z.drop i).all (fun e => decide ((e.row.length : Int) = k)) = true then (.exit 0,⟨[],[],2⟩) else (.ret,⟨[(4,.int .i64 1)],[],2⟩)) := by
 refine loop_ind (σ:=Nat) (fun i => z.length - i) _ (fun i => ⟨[(0,.lst false 0 (ets false z)),(1,.int .i64 k),(6,.int .i64 i)],[],2⟩) _ ?_
 intro i hi ih s hs
 refine loop_s cd54 rfl rfl hs ?_
 have hzl := w_Ets_len (l:=z)
 refine wa_ (wa_ (wc_region (w_ (m_ (h:=w_ (m_ (h:=w_ (le (h:=w_ (b_ (h:=wo_nil (e_ (h:=aft_normal (?_))))))))))))))
 refine c_ (h1:=?_) (h2:=?_)
 rotate_right 1
 focus
  intro c1
  first
  | exact dn c1
  | (
   have d1 := c1;try simp at d1
   refine wc_exit (?_)
   )
 rotate_right 1
 focus
  intro c1
  first
  | exact dn c1
  | (
   have d1 := c1;try simp at d1
   have hw := wrap_succ (i:=i) (by omega);obtain ⟨c,hx,e1,g1⟩ := ets_cut (t:=false) (l:=z) (i:=i) (by omega)
   refine wc_skip (?_)
   )
 all_goals first
 | refine aft_exit ?_
 | (
  refine aft_normal ?_
  refine wa_ (wc_block (wa_ (wc_region (w_ (m_ (h:=w_ (m_ (h:=w_ (x_ (h:=w_ (f_ (h:=w_ (l_ (h:=w_ (le (h:=w_ (m_ (h:=w_ (bE (h:=?_))))))))))))))))))))
  refine wo_nil (e_ (h:=aft_normal (?_)))
  refine c_ (h1:=?_) (h2:=?_)
  rotate_right 1
  focus
   intro c2
   first
   | exact dn c2
   | (
    have d2 := c2;try simp at d2
    refine wc_skip (?_)
    )
  rotate_right 1
  focus
   intro c2
   first
   | exact dn c2
   | (
    have d2 := c2;try simp at d2
    refine wa_ (wc_region (w_ (a_ (h:=wo_nil (e_ (h:=aft_normal (wc_ret (?_))))))))
    )
  all_goals first | refine blk_normal ?_ | refine blk_ret ?_
  all_goals first
  | refine aft_ret ?_
  | (
   refine aft_normal ?_
   refine wc_region (w_ (m_ (h:=w_ (b_ (h:=w_ (a_ (h:=wo_nil (e_ (h:=?_)))))))))
   )
  )
 all_goals first
 | (refine (ih (i + 1) (by omega) ?_ _ ?_).trans ?_;(focus (first | omega | (simp;done) | (simp;omega)));(focus (simp [normE,hw];done));(focus (rw [e1];simp [d2])))
 | (apply end_leaf (ex:=Ext.ret) 2 (some [4]);(focus (simp [normE];rfl));(focus (rw [e1];simp [d2])))
 | (apply end_leaf (ex:=(Ext.exit 0)) 2 (some [4]);(focus (simp [normE];rfl));(focus (rw [List.drop_eq_nil_of_le (by omega)];simp)))
theorem e_widS (z : List Et) (k : Int) (hz : w_Ets z < 2000000) : oc.call 54 [.lst false 0 (ets false z),.int .i64 k] = some (.int .i64 (widF z k),[]) := by
 refine fun_s rfl cd54 rfl rfl rfl (by simp;rfl) (by simp;rfl) ?_
 refine wa_ (wc_region (w_ (a_ (h:=wo_nil (e_ (h:=aft_normal (wa_ (wa_ (wc_region (w_ (m_ (h:=w_ (ca (hc:=e_setS z hz) (h:=w_ (a_ (h:=wo_nil (e_ (h:=?_))))))))))))))))))
 refine aft_normal (wa_ (wc_region (w_ (m_ (h:=w_ (bE (h:=wo_nil (e_ (h:=aft_normal (?_))))))))))
 refine c_ (h1:=?_) (h2:=?_)
 rotate_right 1
 focus
  intro c1
  first
  | exact dn c1
  | (
   have d1 := c1;try simp at d1
   refine wc_skip (?_)
   )
 rotate_right 1
 focus
  intro c1
  first
  | exact dn c1
  | (
   have d1 := c1;try simp at d1
   refine wa_ (wc_region (w_ (m_ (h:=w_ (a_ (h:=wo_nil (e_ (h:=aft_normal (wc_ret (?_))))))))))
   )
 all_goals first
 | refine aft_ret ?_
 | (
  refine aft_normal ?_
  refine wa_ (wa_ (wc_region (w_ (a_ (h:=wo_nil (e_ (h:=aft_normal (wc_block (?_)))))))))
  refine wc_loopI (l_widS z k hz 0 (by omega) _ (by simp [normE])) ?_ ?_
  rotate_right 1
  focus
   intro c2
   first
   | exact dn c2
   | (
    have d2 := c2;try simp at d2
    skip
    )
  rotate_right 1
  focus
   intro c2
   first
   | exact dn c2
   | (
    have d2 := c2;try simp at d2
    skip
    )
  all_goals first | refine blk_ret ?_ | refine blk_exit ?_
  all_goals first
  | refine aft_ret ?_
  | (
   refine aft_normal ?_
   refine wa_ (wc_region (w_ (a_ (h:=wo_nil (e_ (h:=aft_normal (wc_ret (?_))))))))
   )
  )
 all_goals (refine fin_ (hr:=(res_tmp rfl res_nil)) (h:=?_);(focus (simp [widF] at * <;> grind)))
end Go.Proofs.Ytbcgenkegnmkhaa.Ev
namespace Go.Proofs.Ytbcgenkegnmkhaa.Ev
open Go
set_option maxRecDepth 100000
set_option linter.unusedSimpArgs false
set_option linter.unusedVariables false
set_option maxHeartbeats 2000000
def mkI (k : Int) (n : Nat) : List Int := (List.range n).map fun (i : Nat) => k + i
@[simp] theorem mkI_len {k : Int} {n : Nat} : (mkI k n).length = n := by simp [mkI]
theorem mkI_at {k : Int} {n i : Nat} (h : i < n) : (mkI k n)[i]? = some (k + i) := by simp [mkI,h]
theorem alikeL_map {α : Type} {f g : α → V} (hf : ∀ x y,(f x).alike (g y) = true) : ∀ {a b : List α},V.alikeL (a.map f) (b.map g) = decide (a.length = b.length)
  | [],[] => rfl
  | [],_ :: _ => by simp [V.alikeL]
  | _ :: _,[] => by simp [V.alikeL]
  | x :: a,y :: b => by simp only [List.map_cons,V.alikeL,hf,Bool.true_and,alikeL_map hf (a:=a) (b:=b),List.length_cons,Nat.add_right_cancel_iff]
@[simp] theorem alike_ints (a b : List Int) : V.alikeL (ints a) (ints b) = decide (a.length = b.length) := alikeL_map (fun _ _ => rfl)
theorem set_drop {α : Type} {r l : List α} {i : Nat} {x : α} (h : r.drop i = l.drop i) : (r.set i x).drop (i + 1) = l.drop (i + 1) := by
  rw [List.drop_set_of_lt (by omega),← List.drop_drop,h,List.drop_drop]
theorem wS_cut {α : Type} {f : α → Nat} {l : List α} {i : Nat} {x : α} (h : l[i]? = some x) : wS f (l.take (i + 1)) = wS f (l.take i) + f x := by
  induction l generalizing i with
  | nil => simp at h
  | cons y r ih =>
    cases i with
    | zero => simp at h;subst h;simp
    | succ i => simp at h;simp only [List.take_succ_cons,wS_cons];rw [ih h];omega
theorem wS_take {α : Type} {f : α → Nat} {l : List α} {i : Nat} : wS f (l.take i) ≤ wS f l := by
  induction l generalizing i with
  | nil => simp
  | cons y r ih =>
    cases i with
    | zero => simp
    | succ i => have := ih (i:=i);simp only [List.take_succ_cons,wS_cons];omega
theorem wS_len {α : Type} {f : α → Nat} (hf : ∀ x,1 ≤ f x) {l : List α} : l.length ≤ wS f l := by
  induction l with
  | nil => simp
  | cons y r ih => have := hf y;simp only [List.length_cons,wS_cons];omega
theorem l_mk_I (k : Int) (n : Nat) (hk : 0 ≤ k) (hb : k + n < 1000000000000000000) : ∀ x : Nat × (List Int),(x.1 ≤ n ∧ x.2.length = n ∧ x.2.take x.1 = (mkI k n).take x.1) → ∀ s,normE 2 (some [0,1,5]) s = ⟨[(0,.ref 0 0 n),(1,.int .i64 (k + x.1)),(5,.int .i64 x.1)],[(0,⟨false,true,1,ints x.2,0⟩)],2⟩ →
 oc.loop 67 2 s = some (.exit 0,⟨[(1,.int .i64 (k + n))],[(0,⟨false,true,1,ints (mkI k n),0⟩)],2⟩) := by
 refine loop_ind (σ:=Nat × (List Int)) (fun x => n - x.1) _ (fun x => ⟨[(0,.ref 0 0 n),(1,.int .i64 (k + x.1)),(5,.int .i64 x.1)],[(0,⟨false,true,1,ints x.2,0⟩)],2⟩) _ ?_
 rintro ⟨i,r⟩ hi ih s hs
 simp only at hi
 refine loop_s cd67 rfl rfl hs ?_
 obtain ⟨hi1,hi2,hi3⟩ := hi
 refine wa_ (wa_ (wc_region (w_ (m_ (h:=w_ (m_ (h:=w_ (le (h:=w_ (b_ (h:=wo_nil (e_ (h:=aft_normal (?_))))))))))))))
 refine c_ (h1:=?_) (h2:=?_)
 rotate_right 1
 focus
  intro c1
  simp at c1;obtain rfl : i = n := (by omega);obtain rfl : r = mkI k i := (by rw [List.take_of_length_le (by omega),List.take_of_length_le (by simp)] at hi3;exact hi3)
  refine wc_exit (?_)
 rotate_right 1
 focus
  intro c1
  simp at c1;have hw := wrap_succ (i:=i) (by omega);obtain ⟨y,hy⟩ : ∃ y,r[i]? = some y := (List.getElem?_eq_some_iff.2 ⟨by omega,rfl⟩ |> fun h => ⟨_,h⟩);have g2 : (ints r)[i]? = some (.int .i64 y) := (by simp [ints,hy]);have hw2 : IntKind.i64.wrap (k + (i : Int) + 1) = k + ((i + 1 : Nat) : Int) := (wrap_id (by omega) (by omega)).trans (by omega)
  refine wc_skip (?_)
 all_goals first
 | refine aft_exit ?_
 | (
  refine aft_normal ?_
  refine wa_ (wc_block (wa_ (wc_region (w_ (m_ (h:=w_ (m_ (h:=w_ (m_ (h:=w_ (x_ (h:=w0 (s_ (h:=wo_nil (e_ (h:=aft_normal (wc_region (?_))))))))))))))))))
  refine w_ (m_ (h:=w_ (b_ (h:=w_ (a_ (h:=wo_nil (e_ (h:=blk_normal (aft_normal (wc_region (w_ (m_ (h:=w_ (b_ (h:=w_ (a_ (h:=wo_nil (e_ (h:=?_)))))))))))))))))))
  )
 all_goals first
 | (refine (ih ((i + 1,r.set i (k + i))) (⟨by simp;omega,by simpa using hi2,set_take hi3 (by simpa using hi2) (mkI_at (by omega))⟩) ?_ _ ?_).trans ?_;(focus (first | omega | (simp;done) | (simp;omega)));(focus (simp [normE,hw,hw2];done));(focus (rfl)))
 | (apply end_leaf (ex:=(Ext.exit 0)) 2 (some [1]);(focus (simp [normE];rfl));(focus (simp)))
theorem mk_I (k : Int) (l : List Int) (hk : 0 ≤ k) (hb : k + (l.length : Nat) < 1000000000000000000) : oc.call 67 [.iol 1 (ints l),.int .i64 k] = some (.int .i64 (k + l.length),[.lst true 1 (ints (mkI k l.length))]) := by
 refine fun_s rfl cd67 rfl rfl rfl (by simp;rfl) (by simp;rfl) ?_
 refine wa_ (wc_region (w_ (a_ (h:=wo_nil (e_ (h:=aft_normal (wa_ (wa_ (wc_region (w_ (a_ (h:=wo_nil (e_ (h:=aft_normal (wc_block (?_))))))))))))))))
 refine wc_loop (l_mk_I k l.length hk hb (0,l) (by simp) _ (by simp [normE])) ?_
 refine blk_exit (aft_normal (wa_ (wc_region (w_ (m_ (h:=w_ (a_ (h:=wo_nil (e_ (h:=aft_normal (wc_ret (?_))))))))))))
 all_goals (refine fin_ (hr:=(res_tmp rfl res_nil)) (h:=?_);(focus (first | (simp_all;done) | (simp_all <;> omega) | (simp_all <;> split <;> simp_all <;> omega))))
theorem l_held_I (k : Int) (n : Nat) (hk : 0 ≤ k) (hb : k + n < 1000000000000000000) : ∀ i : Nat,(i ≤ n) → ∀ s,normE 2 (some [0,1,5]) s = ⟨[(0,.lst false 0 (ints (mkI k n))),(1,.int .i64 (k + i)),(5,.int .i64 i)],[],2⟩ →
 oc.loop 70 2 s = some (.exit 0,⟨[(1,.int .i64 (k + n))],[],2⟩) := by
 refine loop_ind (σ:=Nat) (fun i => n - i) _ (fun i => ⟨[(0,.lst false 0 (ints (mkI k n))),(1,.int .i64 (k + i)),(5,.int .i64 i)],[],2⟩) _ ?_
 intro i hi ih s hs
 refine loop_s cd70 rfl rfl hs ?_
 refine wa_ (wa_ (wc_region (w_ (m_ (h:=w_ (m_ (h:=w_ (le (h:=w_ (b_ (h:=wo_nil (e_ (h:=aft_normal (?_))))))))))))))
 refine c_ (h1:=?_) (h2:=?_)
 rotate_right 1
 focus
  intro c1
  first
  | exact dn c1
  | (
   have d1 := c1;try simp at d1
   refine wc_exit (?_)
   )
 rotate_right 1
 focus
  intro c1
  first
  | exact dn c1
  | (
   have d1 := c1;try simp at d1
   have hw := wrap_succ (i:=i) (by omega);have g2 : (ints (mkI k n))[i]? = some (.int .i64 (k + i)) := (by simp [ints,mkI_at (show i < n by simpa using d1)]);have hw2 : IntKind.i64.wrap (k + (i : Int) + 1) = k + ((i + 1 : Nat) : Int) := (wrap_id (by omega) (by omega)).trans (by omega)
   refine wc_skip (?_)
   )
 all_goals first
 | refine aft_exit ?_
 | (
  refine aft_normal ?_
  refine wa_ (wc_block (wa_ (wa_ (wc_region (w_ (m_ (h:=w_ (m_ (h:=w_ (x_ (h:=w_ (l_ (h:=w_ (m_ (h:=w_ (bE (h:=wo_nil (e_ (h:=?_)))))))))))))))))))
  refine aft_normal (?_)
  refine c_ (h1:=?_) (h2:=?_)
  rotate_right 1
  focus
   intro c2
   first
   | exact dn c2
   | (
    have d2 := c2;try simp at d2
    refine wc_skip (?_)
    )
  rotate_right 1
  focus
   intro c2
   first
   | exact dn c2
   | (
    have d2 := c2;try simp at d2
    refine wa_ (wc_region (w_ (a_ (h:=wo_nil (e_ (h:=aft_normal (wc_ret (?_))))))))
    )
  all_goals first
  | refine aft_ret ?_
  | (
   refine aft_normal ?_
   refine wc_region (w_ (m_ (h:=w_ (b_ (h:=w_ (a_ (h:=wo_nil (e_ (h:=?_)))))))))
   )
  all_goals first | refine blk_normal ?_ | refine blk_ret ?_
  all_goals first
  | refine aft_ret ?_
  | (
   refine aft_normal ?_
   refine wc_region (w_ (m_ (h:=w_ (b_ (h:=w_ (a_ (h:=wo_nil (e_ (h:=?_)))))))))
   )
  )
 all_goals first
 | (refine (ih (i + 1) (by omega) ?_ _ ?_).trans ?_;(focus (first | omega | (simp;done) | (simp;omega)));(focus (simp [normE,hw,hw2];done));(focus (rfl)))
 | (apply end_leaf (ex:=(Ext.exit 0)) 2 (some [1,4]);(focus (simp [normE];rfl));(focus (simp;omega)))
theorem held_I (k : Int) (n : Nat) (hk : 0 ≤ k) (hb : k + n < 1000000000000000000) : oc.call 70 [.lst false 0 (ints (mkI k n)),.int .i64 k] = some (.int .i64 (k + n),[]) := by
 refine fun_s rfl cd70 rfl rfl rfl (by simp;rfl) (by simp;rfl) ?_
 refine wa_ (wc_region (w_ (a_ (h:=wo_nil (e_ (h:=aft_normal (wa_ (wa_ (wc_region (w_ (a_ (h:=wo_nil (e_ (h:=aft_normal (wc_block (?_))))))))))))))))
 refine wc_loop (l_held_I k n hk hb 0 (by omega) _ (by simp [normE])) ?_
 first | refine blk_ret ?_ | refine blk_exit ?_
 all_goals first
 | refine aft_ret ?_
 | (
  refine aft_normal ?_
  refine wa_ (wc_region (w_ (m_ (h:=w_ (a_ (h:=wo_nil (e_ (h:=aft_normal (wc_ret (?_))))))))))
  )
 all_goals (refine fin_ (hr:=(res_tmp rfl res_nil)) (h:=?_);(focus (first | (simp_all;done) | (simp_all <;> omega) | (simp_all <;> split <;> simp_all <;> omega))))
def cn_Ct (x : Ct) : Nat := 1 + 1 + 1
theorem cn_Ct_pos (x : Ct) : 1 ≤ cn_Ct x := by unfold cn_Ct;omega
def cn_Cts (l : List Ct) : Nat := wS cn_Ct l
theorem cn_Cts_len {l : List Ct} : l.length ≤ cn_Cts l := wS_len cn_Ct_pos
def mk_Ct (k : Int) (x : Ct) : Ct := ⟨k,k + 1,k + 1 + 1⟩
@[simp] theorem mk_Ct_pl (k : Int) (x : Ct) : (mk_Ct k x).pl = k := rfl
@[simp] theorem mk_Ct_ep (k : Int) (x : Ct) : (mk_Ct k x).ep = k + 1 := rfl
@[simp] theorem mk_Ct_n (k : Int) (x : Ct) : (mk_Ct k x).n = k + 1 + 1 := rfl
def mk_Cts (k : Int) : List Ct → List Ct
  | [] => []
  | x :: r => mk_Ct k x :: mk_Cts (k + (cn_Ct x : Nat)) r
@[simp] theorem mk_Cts_len {k : Int} {l : List Ct} : (mk_Cts k l).length = l.length := by
  induction l generalizing k with
  | nil => rfl
  | cons x r ih => simp [mk_Cts,ih]
@[simp] theorem mk_Cts_take {k : Int} {l : List Ct} : (mk_Cts k l).take l.length = mk_Cts k l := List.take_of_length_le (by simp)
theorem mk_Cts_at {k : Int} {l : List Ct} {i : Nat} {x : Ct} (h : l[i]? = some x) : (mk_Cts k l)[i]? = some (mk_Ct (k + (cn_Cts (l.take i) : Nat)) x) := by
  induction l generalizing k i with
  | nil => simp at h
  | cons y r ih =>
    cases i with
    | zero => simp at h;subst h;simp [mk_Cts,cn_Cts]
    | succ i => simp at h;simp only [mk_Cts,List.getElem?_cons_succ,ih h,List.take_succ_cons,cn_Cts,wS_cons];congr 2;push_cast;omega
@[simp] theorem alike_cts (a b : List Ct) : V.alikeL (cts a) (cts b) = decide (a.length = b.length) := alikeL_map (fun _ _ => rfl)
theorem l_mk_Cts (k : Int) (l : List Ct) (hk : 0 ≤ k) (hb : k + (cn_Cts l : Nat) < 1000000000000000000) : ∀ x : Nat × (List Ct),(x.1 ≤ l.length ∧ x.2.length = l.length ∧ x.2.take x.1 = (mk_Cts k l).take x.1 ∧ x.2.drop x.1 = l.drop x.1) → ∀ s,normE 2 (some [0,1,5]) s = ⟨[(0,.ref 0 0 l.length),(1,.int .i64 (k + (cn_Cts (l.take x.1) : Nat))),(5,.int .i64 x.1)],[(0,⟨false,true,3,cts x.2,0⟩)],2⟩ →
 oc.loop 112 2 s = some (.exit 0,⟨[(1,.int .i64 (k + (cn_Cts l : Nat)))],[(0,⟨false,true,3,cts (mk_Cts k l),0⟩)],2⟩) := by
 refine loop_ind (σ:=Nat × (List Ct)) (fun x => l.length - x.1) _ (fun x => ⟨[(0,.ref 0 0 l.length),(1,.int .i64 (k + (cn_Cts (l.take x.1) : Nat))),(5,.int .i64 x.1)],[(0,⟨false,true,3,cts x.2,0⟩)],2⟩) _ ?_
 rintro ⟨i,r⟩ hi ih s hs
 simp only at hi
 refine loop_s cd112 rfl rfl hs ?_
 obtain ⟨hi1,hi2,hi3,hi4⟩ := hi
 have hlen := cn_Cts_len (l:=l)
 refine wa_ (wa_ (wc_region (w_ (m_ (h:=w_ (m_ (h:=w_ (le (h:=w_ (b_ (h:=wo_nil (e_ (h:=aft_normal (?_))))))))))))))
 refine c_ (h1:=?_) (h2:=?_)
 rotate_right 1
 focus
  intro c1
  simp at c1;obtain rfl : i = l.length := (by omega);obtain rfl : r = mk_Cts k l := (by rw [List.take_of_length_le (by omega),List.take_of_length_le (by simp)] at hi3;exact hi3)
  refine wc_exit (?_)
 rotate_right 1
 focus
  intro c1
  simp at c1;have hw := wrap_succ (i:=i) (by omega);obtain ⟨y,hx,_,_⟩ := cts_cut (l:=l) (i:=i) c1;have hy : r[i]? = some y := (by have := congrArg (fun q => q[0]?) hi4;simpa [hx] using this);have g2 : (cts r)[i]? = some (Ct.v (y)) := (by simp [cts,hy]);have hcut := wS_cut (f:=cn_Ct) hx;have hle := wS_take (f:=cn_Ct) (l:=l) (i:=i + 1);have hcy : cn_Ct y = 1 + 1 + 1 := rfl;change cn_Cts (l.take (i + 1)) = cn_Cts (l.take i) + cn_Ct y at hcut;change cn_Cts (l.take (i + 1)) ≤ cn_Cts l at hle;have hw0 : IntKind.i64.wrap (k + (cn_Cts (l.take i) : Nat) + 1) = k + (cn_Cts (l.take i) : Nat) + 1 := wrap_id (by omega) (by omega);have hw1 : IntKind.i64.wrap (k + (cn_Cts (l.take i) : Nat) + 1 + 1) = k + (cn_Cts (l.take i) : Nat) + 1 + 1 := wrap_id (by omega) (by omega);have hw2 : IntKind.i64.wrap (k + (cn_Cts (l.take i) : Nat) + 1 + 1 + 1) = k + ((cn_Cts (l.take (i + 1)) : Nat) : Int) := (by rw [hcut];exact (wrap_id (by omega) (by omega)).trans (by omega))
  refine wc_skip (?_)
 all_goals first
 | refine aft_exit ?_
 | (
  refine aft_normal ?_
  refine wa_ (wc_block (wa_ (wc_region (w_ (m_ (h:=w_ (m_ (h:=w_ (m_ (h:=w_ (x_ (h:=w_ (f_ (h:=w0 (s_ (h:=wo_nil (e_ (h:=aft_normal (?_)))))))))))))))))))
  refine wa_ (wc_region (w_ (m_ (h:=w_ (b_ (h:=w_ (a_ (h:=wo_nil (e_ (h:=aft_normal (wa_ (wc_region (w_ (m_ (h:=w_ (m_ (h:=w_ (m_ (h:=?_)))))))))))))))))))
  refine w_ (x_ (h:=w_ (f_ (h:=w0 (s_ (h:=wo_nil (e_ (h:=aft_normal (wa_ (wc_region (w_ (m_ (h:=w_ (b_ (h:=w_ (a_ (h:=wo_nil (e_ (h:=aft_normal (?_))))))))))))))))))))
  refine wa_ (wc_region (w_ (m_ (h:=w_ (m_ (h:=w_ (m_ (h:=w_ (x_ (h:=w_ (f_ (h:=w0 (s_ (h:=wo_nil (e_ (h:=aft_normal (wc_region (w_ (m_ (h:=?_))))))))))))))))))))
  refine w_ (b_ (h:=w_ (a_ (h:=wo_nil (e_ (h:=blk_normal (aft_normal (wc_region (w_ (m_ (h:=w_ (b_ (h:=w_ (a_ (h:=wo_nil (e_ (h:=?_)))))))))))))))))
  )
 all_goals first
 | (refine (ih ((i + 1,r.set i (mk_Ct (k + (cn_Cts (l.take i) : Nat)) y))) (⟨by simp;omega,by simpa using hi2,set_take hi3 (by simpa using hi2) (mk_Cts_at hx),set_drop hi4⟩) ?_ _ ?_).trans ?_;(focus (first | omega | (simp;done) | (simp;omega)));(focus (simp [normE,hw,hw0,hw1,hw2,mk_Ct];done));(focus (rfl)))
 | (apply end_leaf (ex:=(Ext.exit 0)) 2 (some [1]);(focus (simp [normE];rfl));(focus (simp)))
theorem mkf_Cts (k : Int) (l : List Ct) (hk : 0 ≤ k) (hb : k + (cn_Cts l : Nat) < 1000000000000000000) : oc.call 112 [.iol 3 (cts l),.int .i64 k] = some (.int .i64 (k + (cn_Cts l : Nat)),[.lst true 3 (cts (mk_Cts k l))]) := by
 refine fun_s rfl cd112 rfl rfl rfl (by simp;rfl) (by simp;rfl) ?_
 refine wa_ (wc_region (w_ (a_ (h:=wo_nil (e_ (h:=aft_normal (wa_ (wa_ (wc_region (w_ (a_ (h:=wo_nil (e_ (h:=aft_normal (wc_block (?_))))))))))))))))
 refine wc_loop (l_mk_Cts k l hk hb (0,l) (by simp) _ (by simp [normE,cn_Cts])) ?_
 refine blk_exit (aft_normal (wa_ (wc_region (w_ (m_ (h:=w_ (a_ (h:=wo_nil (e_ (h:=aft_normal (wc_ret (?_))))))))))))
 all_goals (refine fin_ (hr:=(res_tmp rfl res_nil)) (h:=?_);(focus (first | (simp_all;done) | (simp_all <;> omega) | (simp_all <;> split <;> simp_all <;> omega))))
theorem l_held_Cts (k : Int) (l : List Ct) (hk : 0 ≤ k) (hb : k + (cn_Cts l : Nat) < 1000000000000000000) : ∀ i : Nat,(i ≤ l.length) → ∀ s,normE 2 (some [0,1,5]) s = ⟨[(0,.lst false 0 (cts (mk_Cts k l))),(1,.int .i64 (k + (cn_Cts (l.take i) : Nat))),(5,.int .i64 i)],[],2⟩ →
 oc.loop 114 2 s = some (.exit 0,⟨[(1,.int .i64 (k + (cn_Cts l : Nat)))],[],2⟩) := by
 refine loop_ind (σ:=Nat) (fun i => l.length - i) _ (fun i => ⟨[(0,.lst false 0 (cts (mk_Cts k l))),(1,.int .i64 (k + (cn_Cts (l.take i) : Nat))),(5,.int .i64 i)],[],2⟩) _ ?_
 intro i hi ih s hs
 refine loop_s cd114 rfl rfl hs ?_
 have hlen := cn_Cts_len (l:=l)
 refine wa_ (wa_ (wc_region (w_ (m_ (h:=w_ (m_ (h:=w_ (le (h:=w_ (b_ (h:=wo_nil (e_ (h:=aft_normal (?_))))))))))))))
 refine c_ (h1:=?_) (h2:=?_)
 rotate_right 1
 focus
  intro c1
  first
  | exact dn c1
  | (
   have d1 := c1;try simp at d1
   obtain rfl : i = l.length := (by omega)
   refine wc_exit (?_)
   )
 rotate_right 1
 focus
  intro c1
  first
  | exact dn c1
  | (
   have d1 := c1;try simp at d1
   have hc1 : i < l.length := (by simpa using d1);have hw := wrap_succ (i:=i) (by omega);obtain ⟨y,hx,_,_⟩ := cts_cut (l:=l) (i:=i) hc1;have g2 : (cts (mk_Cts k l))[i]? = some (Ct.v (mk_Ct (k + (cn_Cts (l.take i) : Nat)) y)) := (by simp [cts,mk_Cts_at hx]);have hcut := wS_cut (f:=cn_Ct) hx;have hle := wS_take (f:=cn_Ct) (l:=l) (i:=i + 1);have hcy : cn_Ct y = 1 + 1 + 1 := rfl;change cn_Cts (l.take (i + 1)) = cn_Cts (l.take i) + cn_Ct y at hcut;change cn_Cts (l.take (i + 1)) ≤ cn_Cts l at hle;have hw0 : IntKind.i64.wrap (k + (cn_Cts (l.take i) : Nat) + 1) = k + (cn_Cts (l.take i) : Nat) + 1 := wrap_id (by omega) (by omega);have hw1 : IntKind.i64.wrap (k + (cn_Cts (l.take i) : Nat) + 1 + 1) = k + (cn_Cts (l.take i) : Nat) + 1 + 1 := wrap_id (by omega) (by omega);have hw2 : IntKind.i64.wrap (k + (cn_Cts (l.take i) : Nat) + 1 + 1 + 1) = k + ((cn_Cts (l.take (i + 1)) : Nat) : Int) := (by rw [hcut];exact (wrap_id (by omega) (by omega)).trans (by omega))
   refine wc_skip (?_)
   )
 all_goals first
 | refine aft_exit ?_
 | (
  refine aft_normal ?_
  refine wa_ (wc_block (wa_ (wa_ (wc_region (w_ (m_ (h:=w_ (m_ (h:=w_ (x_ (h:=w_ (f_ (h:=w_ (l_ (h:=w_ (m_ (h:=w_ (bE (h:=?_)))))))))))))))))))
  refine wo_nil (e_ (h:=aft_normal (?_)))
  refine c_ (h1:=?_) (h2:=?_)
  rotate_right 1
  focus
   intro c2
   first
   | exact dn c2
   | (
    have d2 := c2;try simp at d2
    refine wc_skip (?_)
    )
  rotate_right 1
  focus
   intro c2
   first
   | exact dn c2
   | (
    have d2 := c2;try simp at d2
    refine wa_ (wc_region (w_ (a_ (h:=wo_nil (e_ (h:=aft_normal (wc_ret (?_))))))))
    )
  all_goals first
  | refine aft_ret ?_
  | (
   refine aft_normal ?_
   refine wa_ (wc_region (w_ (m_ (h:=w_ (b_ (h:=w_ (a_ (h:=wo_nil (e_ (h:=aft_normal (wa_ (wa_ (wc_region (w_ (m_ (h:=w_ (m_ (h:=?_))))))))))))))))))
   refine w_ (x_ (h:=w_ (f_ (h:=w_ (l_ (h:=w_ (m_ (h:=w_ (bE (h:=wo_nil (e_ (h:=aft_normal (?_)))))))))))))
   refine c_ (h1:=?_) (h2:=?_)
   rotate_right 1
   focus
    intro c3
    first
    | exact dn c3
    | (
     have d3 := c3;try simp at d3
     refine wc_skip (?_)
     )
   rotate_right 1
   focus
    intro c3
    first
    | exact dn c3
    | (
     have d3 := c3;try simp at d3
     refine wa_ (wc_region (w_ (a_ (h:=wo_nil (e_ (h:=aft_normal (wc_ret (?_))))))))
     )
   all_goals first
   | refine aft_ret ?_
   | (
    refine aft_normal ?_
    refine wa_ (wc_region (w_ (m_ (h:=w_ (b_ (h:=w_ (a_ (h:=wo_nil (e_ (h:=aft_normal (wa_ (wa_ (wc_region (w_ (m_ (h:=w_ (m_ (h:=?_))))))))))))))))))
    refine w_ (x_ (h:=w_ (f_ (h:=w_ (l_ (h:=w_ (m_ (h:=w_ (bE (h:=wo_nil (e_ (h:=aft_normal (?_)))))))))))))
    refine c_ (h1:=?_) (h2:=?_)
    rotate_right 1
    focus
     intro c4
     first
     | exact dn c4
     | (
      have d4 := c4;try simp at d4
      refine wc_skip (?_)
      )
    rotate_right 1
    focus
     intro c4
     first
     | exact dn c4
     | (
      have d4 := c4;try simp at d4
      refine wa_ (wc_region (w_ (a_ (h:=wo_nil (e_ (h:=aft_normal (wc_ret (?_))))))))
      )
    all_goals first
    | refine aft_ret ?_
    | (
     refine aft_normal ?_
     refine wc_region (w_ (m_ (h:=w_ (b_ (h:=w_ (a_ (h:=wo_nil (e_ (h:=?_)))))))))
     )
    )
   )
  all_goals first | refine blk_normal ?_ | refine blk_ret ?_
  all_goals first
  | refine aft_ret ?_
  | (
   refine aft_normal ?_
   refine wc_region (w_ (m_ (h:=w_ (b_ (h:=w_ (a_ (h:=wo_nil (e_ (h:=?_)))))))))
   )
  )
 all_goals first
 | (refine (ih (i + 1) (by omega) ?_ _ ?_).trans ?_;(focus (first | omega | (simp;done) | (simp;omega)));(focus (simp [normE,hw,hw0,hw1,hw2];done));(focus (rfl)))
 | (apply end_leaf (ex:=(Ext.exit 0)) 2 (some [1,4]);(focus (simp [normE];rfl));(focus (simp)))
 | (apply end_leaf (ex:=Ext.ret) 2 (some [1,4]);(focus (simp [normE];rfl));(focus (exfalso;clear ih hs hw;simp only [hw0,hw1] at *;simp at *)))
theorem held_Cts (k : Int) (l : List Ct) (hk : 0 ≤ k) (hb : k + (cn_Cts l : Nat) < 1000000000000000000) : oc.call 114 [.lst false 0 (cts (mk_Cts k l)),.int .i64 k] = some (.int .i64 (k + (cn_Cts l : Nat)),[]) := by
 refine fun_s rfl cd114 rfl rfl rfl (by simp;rfl) (by simp;rfl) ?_
 refine wa_ (wc_region (w_ (a_ (h:=wo_nil (e_ (h:=aft_normal (wa_ (wa_ (wc_region (w_ (a_ (h:=wo_nil (e_ (h:=aft_normal (wc_block (?_))))))))))))))))
 refine wc_loop (l_held_Cts k l hk hb 0 (by omega) _ (by simp [normE,cn_Cts])) ?_
 first | refine blk_ret ?_ | refine blk_exit ?_
 all_goals first
 | refine aft_ret ?_
 | (
  refine aft_normal ?_
  refine wa_ (wc_region (w_ (m_ (h:=w_ (a_ (h:=wo_nil (e_ (h:=aft_normal (wc_ret (?_))))))))))
  )
 all_goals (refine fin_ (hr:=(res_tmp rfl res_nil)) (h:=?_);(focus (first | (simp_all;done) | (simp_all <;> omega) | (simp_all <;> split <;> simp_all <;> omega))))
def cn_Nd (x : Nd) : Nat := 1 + 1 + 1 + 1 + 1 + 1 + x.cells.length
theorem cn_Nd_pos (x : Nd) : 1 ≤ cn_Nd x := by unfold cn_Nd;omega
def cn_Nds (l : List Nd) : Nat := wS cn_Nd l
theorem cn_Nds_len {l : List Nd} : l.length ≤ cn_Nds l := wS_len cn_Nd_pos
def mk_Nd (k : Int) (x : Nd) : Nd := ⟨k,k + 1,k + 1 + 1,k + 1 + 1 + 1,k + 1 + 1 + 1 + 1,k + 1 + 1 + 1 + 1 + 1,mkI (k + 1 + 1 + 1 + 1 + 1 + 1) x.cells.length⟩
@[simp] theorem mk_Nd_op (k : Int) (x : Nd) : (mk_Nd k x).op = k := rfl
@[simp] theorem mk_Nd_a (k : Int) (x : Nd) : (mk_Nd k x).a = k + 1 := rfl
@[simp] theorem mk_Nd_b (k : Int) (x : Nd) : (mk_Nd k x).b = k + 1 + 1 := rfl
@[simp] theorem mk_Nd_col (k : Int) (x : Nd) : (mk_Nd k x).col = k + 1 + 1 + 1 := rfl
@[simp] theorem mk_Nd_test (k : Int) (x : Nd) : (mk_Nd k x).test = k + 1 + 1 + 1 + 1 := rfl
@[simp] theorem mk_Nd_value (k : Int) (x : Nd) : (mk_Nd k x).value = k + 1 + 1 + 1 + 1 + 1 := rfl
@[simp] theorem mk_Nd_cells (k : Int) (x : Nd) : (mk_Nd k x).cells = mkI (k + 1 + 1 + 1 + 1 + 1 + 1) x.cells.length := rfl
def mk_Nds (k : Int) : List Nd → List Nd
  | [] => []
  | x :: r => mk_Nd k x :: mk_Nds (k + (cn_Nd x : Nat)) r
@[simp] theorem mk_Nds_len {k : Int} {l : List Nd} : (mk_Nds k l).length = l.length := by
  induction l generalizing k with
  | nil => rfl
  | cons x r ih => simp [mk_Nds,ih]
@[simp] theorem mk_Nds_take {k : Int} {l : List Nd} : (mk_Nds k l).take l.length = mk_Nds k l := List.take_of_length_le (by simp)
theorem mk_Nds_at {k : Int} {l : List Nd} {i : Nat} {x : Nd} (h : l[i]? = some x) : (mk_Nds k l)[i]? = some (mk_Nd (k + (cn_Nds (l.take i) : Nat)) x) := by
  induction l generalizing k i with
  | nil => simp at h
  | cons y r ih =>
    cases i with
    | zero => simp at h;subst h;simp [mk_Nds,cn_Nds]
    | succ i => simp at h;simp only [mk_Nds,List.getElem?_cons_succ,ih h,List.take_succ_cons,cn_Nds,wS_cons];congr 2;push_cast;omega
@[simp] theorem alike_nds (t u : Bool) (s z : Nat) (a b : List Nd) : V.alikeL (nds t s a) (nds u z b) = decide (a.length = b.length) := alikeL_map (fun _ _ => rfl)
theorem l_mk_Nds (k : Int) (l : List Nd) (hk : 0 ≤ k) (hb : k + (cn_Nds l : Nat) < 1000000000000000000) : ∀ x : Nat × (List Nd),(x.1 ≤ l.length ∧ x.2.length = l.length ∧ x.2.take x.1 = (mk_Nds k l).take x.1 ∧ x.2.drop x.1 = l.drop x.1) → ∀ s,normE 2 (some [0,1,5]) s = ⟨[(0,.ref 0 0 l.length),(1,.int .i64 (k + (cn_Nds (l.take x.1) : Nat))),(5,.int .i64 x.1)],[(0,⟨false,true,7,nds true 1 x.2,0⟩)],2⟩ →
 oc.loop 27 2 s = some (.exit 0,⟨[(1,.int .i64 (k + (cn_Nds l : Nat)))],[(0,⟨false,true,7,nds true 1 (mk_Nds k l),0⟩)],2⟩) := by
 refine loop_ind (σ:=Nat × (List Nd)) (fun x => l.length - x.1) _ (fun x => ⟨[(0,.ref 0 0 l.length),(1,.int .i64 (k + (cn_Nds (l.take x.1) : Nat))),(5,.int .i64 x.1)],[(0,⟨false,true,7,nds true 1 x.2,0⟩)],2⟩) _ ?_
 rintro ⟨i,r⟩ hi ih s hs
 simp only at hi
 refine loop_s cd27 rfl rfl hs ?_
 obtain ⟨hi1,hi2,hi3,hi4⟩ := hi
 have hlen := cn_Nds_len (l:=l)
 refine wa_ (wa_ (wc_region (w_ (m_ (h:=w_ (m_ (h:=w_ (le (h:=w_ (b_ (h:=wo_nil (e_ (h:=aft_normal (?_))))))))))))))
 refine c_ (h1:=?_) (h2:=?_)
 rotate_right 1
 focus
  intro c1
  simp at c1;obtain rfl : i = l.length := (by omega);obtain rfl : r = mk_Nds k l := (by rw [List.take_of_length_le (by omega),List.take_of_length_le (by simp)] at hi3;exact hi3)
  refine wc_exit (?_)
 rotate_right 1
 focus
  intro c1
  simp at c1;have hw := wrap_succ (i:=i) (by omega);obtain ⟨y,hx,_,_⟩ := nds_cut (t:=false) (s:=0) (l:=l) (i:=i) c1;have hy : r[i]? = some y := (by have := congrArg (fun q => q[0]?) hi4;simpa [hx] using this);have g2 : (nds true 1 r)[i]? = some (Nd.v true 1 (y)) := (by simp [nds,hy]);have hcut := wS_cut (f:=cn_Nd) hx;have hle := wS_take (f:=cn_Nd) (l:=l) (i:=i + 1);have hcy : cn_Nd y = 1 + 1 + 1 + 1 + 1 + 1 + y.cells.length := rfl;change cn_Nds (l.take (i + 1)) = cn_Nds (l.take i) + cn_Nd y at hcut;change cn_Nds (l.take (i + 1)) ≤ cn_Nds l at hle;have hw0 : IntKind.i64.wrap (k + (cn_Nds (l.take i) : Nat) + 1) = k + (cn_Nds (l.take i) : Nat) + 1 := wrap_id (by omega) (by omega);have hw1 : IntKind.i64.wrap (k + (cn_Nds (l.take i) : Nat) + 1 + 1) = k + (cn_Nds (l.take i) : Nat) + 1 + 1 := wrap_id (by omega) (by omega);have hw2 : IntKind.i64.wrap (k + (cn_Nds (l.take i) : Nat) + 1 + 1 + 1) = k + (cn_Nds (l.take i) : Nat) + 1 + 1 + 1 := wrap_id (by omega) (by omega);have hw3 : IntKind.i64.wrap (k + (cn_Nds (l.take i) : Nat) + 1 + 1 + 1 + 1) = k + (cn_Nds (l.take i) : Nat) + 1 + 1 + 1 + 1 := wrap_id (by omega) (by omega);have hw4 : IntKind.i64.wrap (k + (cn_Nds (l.take i) : Nat) + 1 + 1 + 1 + 1 + 1) = k + (cn_Nds (l.take i) : Nat) + 1 + 1 + 1 + 1 + 1 := wrap_id (by omega) (by omega);have hw5 : IntKind.i64.wrap (k + (cn_Nds (l.take i) : Nat) + 1 + 1 + 1 + 1 + 1 + 1) = k + (cn_Nds (l.take i) : Nat) + 1 + 1 + 1 + 1 + 1 + 1 := wrap_id (by omega) (by omega);have hw6 : k + (cn_Nds (l.take i) : Nat) + 1 + 1 + 1 + 1 + 1 + 1 + (y.cells.length : Nat) = k + ((cn_Nds (l.take (i + 1)) : Nat) : Int) := (by rw [hcut];omega)
  refine wc_skip (?_)
 all_goals first
 | refine aft_exit ?_
 | (
  refine aft_normal ?_
  refine wa_ (wc_block (wa_ (wc_region (w_ (m_ (h:=w_ (m_ (h:=w_ (m_ (h:=w_ (x_ (h:=w_ (f_ (h:=w0 (s_ (h:=wo_nil (e_ (h:=aft_normal (?_)))))))))))))))))))
  refine wa_ (wc_region (w_ (m_ (h:=w_ (b_ (h:=w_ (a_ (h:=wo_nil (e_ (h:=aft_normal (wa_ (wc_region (w_ (m_ (h:=w_ (m_ (h:=w_ (m_ (h:=?_)))))))))))))))))))
  refine w_ (x_ (h:=w_ (f_ (h:=w0 (s_ (h:=wo_nil (e_ (h:=aft_normal (wa_ (wc_region (w_ (m_ (h:=w_ (b_ (h:=w_ (a_ (h:=wo_nil (e_ (h:=aft_normal (?_))))))))))))))))))))
  refine wa_ (wc_region (w_ (m_ (h:=w_ (m_ (h:=w_ (m_ (h:=w_ (x_ (h:=w_ (f_ (h:=w0 (s_ (h:=wo_nil (e_ (h:=aft_normal (wa_ (wc_region (?_)))))))))))))))))))
  refine w_ (m_ (h:=w_ (b_ (h:=w_ (a_ (h:=wo_nil (e_ (h:=aft_normal (wa_ (wc_region (w_ (m_ (h:=w_ (m_ (h:=w_ (m_ (h:=w_ (x_ (h:=w_ (f_ (h:=?_)))))))))))))))))))))
  refine w0 (s_ (h:=wo_nil (e_ (h:=aft_normal (wa_ (wc_region (w_ (m_ (h:=w_ (b_ (h:=w_ (a_ (h:=wo_nil (e_ (h:=aft_normal (wa_ (wc_region (?_))))))))))))))))))
  refine w_ (m_ (h:=w_ (m_ (h:=w_ (m_ (h:=w_ (x_ (h:=w_ (f_ (h:=w0 (s_ (h:=wo_nil (e_ (h:=aft_normal (wa_ (wc_region (w_ (m_ (h:=w_ (b_ (h:=?_)))))))))))))))))))))
  refine w_ (a_ (h:=wo_nil (e_ (h:=aft_normal (wa_ (wc_region (w_ (m_ (h:=w_ (m_ (h:=w_ (m_ (h:=w_ (x_ (h:=w_ (f_ (h:=w0 (s_ (h:=wo_nil (e_ (h:=?_)))))))))))))))))))))
  refine aft_normal (wa_ (wc_region (w_ (m_ (h:=w_ (b_ (h:=w_ (a_ (h:=wo_nil (e_ (h:=aft_normal (wc_region (w_ (m_ (h:=w_ (m_ (h:=w_ (x_ (h:=?_)))))))))))))))))))
  refine w_ (f_ (h:=w_ (l_ (h:=w_ (m_ (h:=?_))))))
  first | refine ip (hc:=(by (try simp only [hw0,hw1,hw2,hw3,hw4,hw5,hw6]);exact mk_I (k + (cn_Nds (l.take i) : Nat) + 1 + 1 + 1 + 1 + 1 + 1) y.cells (by omega) (by omega))) (h:=?_) | refine iq (hc:=(by (try simp only [hw0,hw1,hw2,hw3,hw4,hw5,hw6]);exact mk_I (k + (cn_Nds (l.take i) : Nat) + 1 + 1 + 1 + 1 + 1 + 1) y.cells (by omega) (by omega))) (h:=?_)
  refine w_ (a_ (h:=wo_nil (e_ (h:=blk_normal (aft_normal (wc_region (w_ (m_ (h:=w_ (b_ (h:=w_ (a_ (h:=wo_nil (e_ (h:=?_)))))))))))))))
  )
 all_goals first
 | (refine (ih ((i + 1,r.set i (mk_Nd (k + (cn_Nds (l.take i) : Nat)) y))) (⟨by simp;omega,by simpa using hi2,set_take hi3 (by simpa using hi2) (mk_Nds_at hx),set_drop hi4⟩) ?_ _ ?_).trans ?_;(focus (first | omega | (simp;done) | (simp;omega)));(focus (simp [normE,hw,hw0,hw1,hw2,hw3,hw4,hw5,hw6,mk_Nd];done));(focus (rfl)))
 | (apply end_leaf (ex:=(Ext.exit 0)) 2 (some [1]);(focus (simp [normE];rfl));(focus (simp)))
theorem mkf_Nds (k : Int) (l : List Nd) (hk : 0 ≤ k) (hb : k + (cn_Nds l : Nat) < 1000000000000000000) : oc.call 27 [.iol 7 (nds true 1 l),.int .i64 k] = some (.int .i64 (k + (cn_Nds l : Nat)),[.lst true 7 (nds true 1 (mk_Nds k l))]) := by
 refine fun_s rfl cd27 rfl rfl rfl (by simp;rfl) (by simp;rfl) ?_
 refine wa_ (wc_region (w_ (a_ (h:=wo_nil (e_ (h:=aft_normal (wa_ (wa_ (wc_region (w_ (a_ (h:=wo_nil (e_ (h:=aft_normal (wc_block (?_))))))))))))))))
 refine wc_loop (l_mk_Nds k l hk hb (0,l) (by simp) _ (by simp [normE,cn_Nds])) ?_
 refine blk_exit (aft_normal (wa_ (wc_region (w_ (m_ (h:=w_ (a_ (h:=wo_nil (e_ (h:=aft_normal (wc_ret (?_))))))))))))
 all_goals (refine fin_ (hr:=(res_tmp rfl res_nil)) (h:=?_);(focus (first | (simp_all;done) | (simp_all <;> omega) | (simp_all <;> split <;> simp_all <;> omega))))
def cn_Et (x : Et) : Nat := x.row.length + 1
theorem cn_Et_pos (x : Et) : 1 ≤ cn_Et x := by unfold cn_Et;omega
def cn_Ets (l : List Et) : Nat := wS cn_Et l
theorem cn_Ets_len {l : List Et} : l.length ≤ cn_Ets l := wS_len cn_Et_pos
def mk_Et (k : Int) (x : Et) : Et := ⟨mkI (k) x.row.length,k + (x.row.length : Nat)⟩
@[simp] theorem mk_Et_row (k : Int) (x : Et) : (mk_Et k x).row = mkI (k) x.row.length := rfl
@[simp] theorem mk_Et_w (k : Int) (x : Et) : (mk_Et k x).w = k + (x.row.length : Nat) := rfl
def mk_Ets (k : Int) : List Et → List Et
  | [] => []
  | x :: r => mk_Et k x :: mk_Ets (k + (cn_Et x : Nat)) r
@[simp] theorem mk_Ets_len {k : Int} {l : List Et} : (mk_Ets k l).length = l.length := by
  induction l generalizing k with
  | nil => rfl
  | cons x r ih => simp [mk_Ets,ih]
@[simp] theorem mk_Ets_take {k : Int} {l : List Et} : (mk_Ets k l).take l.length = mk_Ets k l := List.take_of_length_le (by simp)
theorem mk_Ets_at {k : Int} {l : List Et} {i : Nat} {x : Et} (h : l[i]? = some x) : (mk_Ets k l)[i]? = some (mk_Et (k + (cn_Ets (l.take i) : Nat)) x) := by
  induction l generalizing k i with
  | nil => simp at h
  | cons y r ih =>
    cases i with
    | zero => simp at h;subst h;simp [mk_Ets,cn_Ets]
    | succ i => simp at h;simp only [mk_Ets,List.getElem?_cons_succ,ih h,List.take_succ_cons,cn_Ets,wS_cons];congr 2;push_cast;omega
@[simp] theorem alike_ets (t u : Bool) (a b : List Et) : V.alikeL (ets t a) (ets u b) = decide (a.length = b.length) := alikeL_map (fun _ _ => rfl)
theorem l_mk_Ets (k : Int) (l : List Et) (hk : 0 ≤ k) (hb : k + (cn_Ets l : Nat) < 1000000000000000000) : ∀ x : Nat × (List Et),(x.1 ≤ l.length ∧ x.2.length = l.length ∧ x.2.take x.1 = (mk_Ets k l).take x.1 ∧ x.2.drop x.1 = l.drop x.1) → ∀ s,normE 2 (some [0,1,5]) s = ⟨[(0,.ref 0 0 l.length),(1,.int .i64 (k + (cn_Ets (l.take x.1) : Nat))),(5,.int .i64 x.1)],[(0,⟨false,true,2,ets true x.2,0⟩)],2⟩ →
 oc.loop 28 2 s = some (.exit 0,⟨[(1,.int .i64 (k + (cn_Ets l : Nat)))],[(0,⟨false,true,2,ets true (mk_Ets k l),0⟩)],2⟩) := by
 refine loop_ind (σ:=Nat × (List Et)) (fun x => l.length - x.1) _ (fun x => ⟨[(0,.ref 0 0 l.length),(1,.int .i64 (k + (cn_Ets (l.take x.1) : Nat))),(5,.int .i64 x.1)],[(0,⟨false,true,2,ets true x.2,0⟩)],2⟩) _ ?_
 rintro ⟨i,r⟩ hi ih s hs
 simp only at hi
 refine loop_s cd28 rfl rfl hs ?_
 obtain ⟨hi1,hi2,hi3,hi4⟩ := hi
 have hlen := cn_Ets_len (l:=l)
 refine wa_ (wa_ (wc_region (w_ (m_ (h:=w_ (m_ (h:=w_ (le (h:=w_ (b_ (h:=wo_nil (e_ (h:=aft_normal (?_))))))))))))))
 refine c_ (h1:=?_) (h2:=?_)
 rotate_right 1
 focus
  intro c1
  simp at c1;obtain rfl : i = l.length := (by omega);obtain rfl : r = mk_Ets k l := (by rw [List.take_of_length_le (by omega),List.take_of_length_le (by simp)] at hi3;exact hi3)
  refine wc_exit (?_)
 rotate_right 1
 focus
  intro c1
  simp at c1;have hw := wrap_succ (i:=i) (by omega);obtain ⟨y,hx,_,_⟩ := ets_cut (t:=false) (l:=l) (i:=i) c1;have hy : r[i]? = some y := (by have := congrArg (fun q => q[0]?) hi4;simpa [hx] using this);have g2 : (ets true r)[i]? = some (Et.v true (y)) := (by simp [ets,hy]);have hcut := wS_cut (f:=cn_Et) hx;have hle := wS_take (f:=cn_Et) (l:=l) (i:=i + 1);have hcy : cn_Et y = y.row.length + 1 := rfl;change cn_Ets (l.take (i + 1)) = cn_Ets (l.take i) + cn_Et y at hcut;change cn_Ets (l.take (i + 1)) ≤ cn_Ets l at hle;have hw1 : IntKind.i64.wrap (k + (cn_Ets (l.take i) : Nat) + (y.row.length : Nat) + 1) = k + ((cn_Ets (l.take (i + 1)) : Nat) : Int) := (by rw [hcut];exact (wrap_id (by omega) (by omega)).trans (by omega))
  refine wc_skip (?_)
 all_goals first
 | refine aft_exit ?_
 | (
  refine aft_normal ?_
  refine wa_ (wc_block (wa_ (wc_region (w_ (m_ (h:=w_ (m_ (h:=w_ (x_ (h:=w_ (f_ (h:=w_ (l_ (h:=w_ (m_ (h:=?_))))))))))))))))
  first | refine ip (hc:=(by (try simp only [hw1]);exact mk_I (k + (cn_Ets (l.take i) : Nat)) y.row (by omega) (by omega))) (h:=?_) | refine iq (hc:=(by (try simp only [hw1]);exact mk_I (k + (cn_Ets (l.take i) : Nat)) y.row (by omega) (by omega))) (h:=?_)
  refine w_ (a_ (h:=wo_nil (e_ (h:=aft_normal (wa_ (wc_region (w_ (m_ (h:=w_ (m_ (h:=w_ (m_ (h:=w_ (x_ (h:=w_ (f_ (h:=w0 (s_ (h:=wo_nil (e_ (h:=?_)))))))))))))))))))))
  refine aft_normal (wc_region (w_ (m_ (h:=w_ (b_ (h:=w_ (a_ (h:=wo_nil (e_ (h:=blk_normal (aft_normal (wc_region (w_ (m_ (h:=w_ (b_ (h:=w_ (a_ (h:=?_)))))))))))))))))))
  refine wo_nil (e_ (h:=?_))
  )
 all_goals first
 | (refine (ih ((i + 1,r.set i (mk_Et (k + (cn_Ets (l.take i) : Nat)) y))) (⟨by simp;omega,by simpa using hi2,set_take hi3 (by simpa using hi2) (mk_Ets_at hx),set_drop hi4⟩) ?_ _ ?_).trans ?_;(focus (first | omega | (simp;done) | (simp;omega)));(focus (simp [normE,hw,hw1,mk_Et];done));(focus (rfl)))
 | (apply end_leaf (ex:=(Ext.exit 0)) 2 (some [1]);(focus (simp [normE];rfl));(focus (simp)))
theorem mkf_Ets (k : Int) (l : List Et) (hk : 0 ≤ k) (hb : k + (cn_Ets l : Nat) < 1000000000000000000) : oc.call 28 [.iol 2 (ets true l),.int .i64 k] = some (.int .i64 (k + (cn_Ets l : Nat)),[.lst true 2 (ets true (mk_Ets k l))]) := by
 refine fun_s rfl cd28 rfl rfl rfl (by simp;rfl) (by simp;rfl) ?_
 refine wa_ (wc_region (w_ (a_ (h:=wo_nil (e_ (h:=aft_normal (wa_ (wa_ (wc_region (w_ (a_ (h:=wo_nil (e_ (h:=aft_normal (wc_block (?_))))))))))))))))
 refine wc_loop (l_mk_Ets k l hk hb (0,l) (by simp) _ (by simp [normE,cn_Ets])) ?_
 refine blk_exit (aft_normal (wa_ (wc_region (w_ (m_ (h:=w_ (a_ (h:=wo_nil (e_ (h:=aft_normal (wc_ret (?_))))))))))))
 all_goals (refine fin_ (hr:=(res_tmp rfl res_nil)) (h:=?_);(focus (first | (simp_all;done) | (simp_all <;> omega) | (simp_all <;> split <;> simp_all <;> omega))))
theorem l_held_Ets (k : Int) (l : List Et) (hk : 0 ≤ k) (hb : k + (cn_Ets l : Nat) < 1000000000000000000) : ∀ i : Nat,(i ≤ l.length) → ∀ s,normE 2 (some [0,1,5]) s = ⟨[(0,.lst false 0 (ets false (mk_Ets k l))),(1,.int .i64 (k + (cn_Ets (l.take i) : Nat))),(5,.int .i64 i)],[],2⟩ →
 oc.loop 113 2 s = some (.exit 0,⟨[(1,.int .i64 (k + (cn_Ets l : Nat)))],[],2⟩) := by
 refine loop_ind (σ:=Nat) (fun i => l.length - i) _ (fun i => ⟨[(0,.lst false 0 (ets false (mk_Ets k l))),(1,.int .i64 (k + (cn_Ets (l.take i) : Nat))),(5,.int .i64 i)],[],2⟩) _ ?_
 intro i hi ih s hs
 refine loop_s cd113 rfl rfl hs ?_
 have hlen := cn_Ets_len (l:=l)
 refine wa_ (wa_ (wc_region (w_ (m_ (h:=w_ (m_ (h:=w_ (le (h:=w_ (b_ (h:=wo_nil (e_ (h:=aft_normal (?_))))))))))))))
 refine c_ (h1:=?_) (h2:=?_)
 rotate_right 1
 focus
  intro c1
  first
  | exact dn c1
  | (
   have d1 := c1;try simp at d1
   obtain rfl : i = l.length := (by omega)
   refine wc_exit (?_)
   )
 rotate_right 1
 focus
  intro c1
  first
  | exact dn c1
  | (
   have d1 := c1;try simp at d1
   have hc1 : i < l.length := (by simpa using d1);have hw := wrap_succ (i:=i) (by omega);obtain ⟨y,hx,_,_⟩ := ets_cut (t:=false) (l:=l) (i:=i) hc1;have g2 : (ets false (mk_Ets k l))[i]? = some (Et.v false (mk_Et (k + (cn_Ets (l.take i) : Nat)) y)) := (by simp [ets,mk_Ets_at hx]);have hcut := wS_cut (f:=cn_Et) hx;have hle := wS_take (f:=cn_Et) (l:=l) (i:=i + 1);have hcy : cn_Et y = y.row.length + 1 := rfl;change cn_Ets (l.take (i + 1)) = cn_Ets (l.take i) + cn_Et y at hcut;change cn_Ets (l.take (i + 1)) ≤ cn_Ets l at hle;have hw1 : IntKind.i64.wrap (k + (cn_Ets (l.take i) : Nat) + (y.row.length : Nat) + 1) = k + ((cn_Ets (l.take (i + 1)) : Nat) : Int) := (by rw [hcut];exact (wrap_id (by omega) (by omega)).trans (by omega))
   refine wc_skip (?_)
   )
 all_goals first
 | refine aft_exit ?_
 | (
  refine aft_normal ?_
  refine wa_ (wc_block (wa_ (wc_region (w_ (m_ (h:=w_ (m_ (h:=w_ (x_ (h:=w_ (f_ (h:=w_ (l_ (h:=w_ (m_ (h:=w_ (ca (hc:=(by (try simp only [hw1]);exact held_I (k + (cn_Ets (l.take i) : Nat)) y.row.length (by omega) (by omega))) (h:=w_ (a_ (h:=?_))))))))))))))))))))
  refine wo_nil (e_ (h:=aft_normal (wa_ (wa_ (wc_region (w_ (m_ (h:=w_ (b_ (h:=wo_nil (e_ (h:=aft_normal (?_)))))))))))))
  refine c_ (h1:=?_) (h2:=?_)
  rotate_right 1
  focus
   intro c2
   first
   | exact dn c2
   | (
    have d2 := c2;try simp at d2
    refine wc_skip (?_)
    )
  rotate_right 1
  focus
   intro c2
   first
   | exact dn c2
   | (
    have d2 := c2;try simp at d2
    refine wa_ (wc_region (w_ (a_ (h:=wo_nil (e_ (h:=aft_normal (wc_ret (?_))))))))
    )
  all_goals first
  | refine aft_ret ?_
  | (
   refine aft_normal ?_
   refine wa_ (wa_ (wc_region (w_ (m_ (h:=w_ (m_ (h:=w_ (x_ (h:=w_ (f_ (h:=w_ (l_ (h:=w_ (m_ (h:=w_ (bE (h:=wo_nil (e_ (h:=aft_normal (?_))))))))))))))))))))
   refine c_ (h1:=?_) (h2:=?_)
   rotate_right 1
   focus
    intro c3
    first
    | exact dn c3
    | (
     have d3 := c3;try simp at d3
     refine wc_skip (?_)
     )
   rotate_right 1
   focus
    intro c3
    first
    | exact dn c3
    | (
     have d3 := c3;try simp at d3
     refine wa_ (wc_region (w_ (a_ (h:=wo_nil (e_ (h:=aft_normal (wc_ret (?_))))))))
     )
   all_goals first
   | refine aft_ret ?_
   | (
    refine aft_normal ?_
    refine wc_region (w_ (m_ (h:=w_ (b_ (h:=w_ (a_ (h:=wo_nil (e_ (h:=?_)))))))))
    )
   )
  all_goals first | refine blk_normal ?_ | refine blk_ret ?_
  all_goals first
  | refine aft_ret ?_
  | (
   refine aft_normal ?_
   refine wc_region (w_ (m_ (h:=w_ (b_ (h:=w_ (a_ (h:=wo_nil (e_ (h:=?_)))))))))
   )
  )
 all_goals first
 | (refine (ih (i + 1) (by omega) ?_ _ ?_).trans ?_;(focus (first | omega | (simp;done) | (simp;omega)));(focus (simp [normE,hw,hw1];done));(focus (rfl)))
 | (apply end_leaf (ex:=(Ext.exit 0)) 2 (some [1,4]);(focus (simp [normE];rfl));(focus (simp)))
 | (apply end_leaf (ex:=Ext.ret) 2 (some [1,4]);(focus (simp [normE];rfl));(focus (exfalso;omega)))
theorem held_Ets (k : Int) (l : List Et) (hk : 0 ≤ k) (hb : k + (cn_Ets l : Nat) < 1000000000000000000) : oc.call 113 [.lst false 0 (ets false (mk_Ets k l)),.int .i64 k] = some (.int .i64 (k + (cn_Ets l : Nat)),[]) := by
 refine fun_s rfl cd113 rfl rfl rfl (by simp;rfl) (by simp;rfl) ?_
 refine wa_ (wc_region (w_ (a_ (h:=wo_nil (e_ (h:=aft_normal (wa_ (wa_ (wc_region (w_ (a_ (h:=wo_nil (e_ (h:=aft_normal (wc_block (?_))))))))))))))))
 refine wc_loop (l_held_Ets k l hk hb 0 (by omega) _ (by simp [normE,cn_Ets])) ?_
 first | refine blk_ret ?_ | refine blk_exit ?_
 all_goals first
 | refine aft_ret ?_
 | (
  refine aft_normal ?_
  refine wa_ (wc_region (w_ (m_ (h:=w_ (a_ (h:=wo_nil (e_ (h:=aft_normal (wc_ret (?_))))))))))
  )
 all_goals (refine fin_ (hr:=(res_tmp rfl res_nil)) (h:=?_);(focus (first | (simp_all;done) | (simp_all <;> omega) | (simp_all <;> split <;> simp_all <;> omega))))
def cn_Fr (x : Fr) : Nat := 1 + 1 + 1 + 1 + cn_Ets x.set + cn_Cts x.news
theorem cn_Fr_pos (x : Fr) : 1 ≤ cn_Fr x := by unfold cn_Fr;omega
def cn_Frs (l : List Fr) : Nat := wS cn_Fr l
theorem cn_Frs_len {l : List Fr} : l.length ≤ cn_Frs l := wS_len cn_Fr_pos
def mk_Fr (k : Int) (x : Fr) : Fr := ⟨k,k + 1,k + 1 + 1,k + 1 + 1 + 1,mk_Ets (k + 1 + 1 + 1 + 1) x.set,mk_Cts (k + 1 + 1 + 1 + 1 + (cn_Ets x.set : Nat)) x.news⟩
@[simp] theorem mk_Fr_kind (k : Int) (x : Fr) : (mk_Fr k x).kind = k := rfl
@[simp] theorem mk_Fr_node (k : Int) (x : Fr) : (mk_Fr k x).node = k + 1 := rfl
@[simp] theorem mk_Fr_side (k : Int) (x : Fr) : (mk_Fr k x).side = k + 1 + 1 := rfl
@[simp] theorem mk_Fr_ep (k : Int) (x : Fr) : (mk_Fr k x).ep = k + 1 + 1 + 1 := rfl
@[simp] theorem mk_Fr_set (k : Int) (x : Fr) : (mk_Fr k x).set = mk_Ets (k + 1 + 1 + 1 + 1) x.set := rfl
@[simp] theorem mk_Fr_news (k : Int) (x : Fr) : (mk_Fr k x).news = mk_Cts (k + 1 + 1 + 1 + 1 + (cn_Ets x.set : Nat)) x.news := rfl
def mk_Frs (k : Int) : List Fr → List Fr
  | [] => []
  | x :: r => mk_Fr k x :: mk_Frs (k + (cn_Fr x : Nat)) r
@[simp] theorem mk_Frs_len {k : Int} {l : List Fr} : (mk_Frs k l).length = l.length := by
  induction l generalizing k with
  | nil => rfl
  | cons x r ih => simp [mk_Frs,ih]
@[simp] theorem mk_Frs_take {k : Int} {l : List Fr} : (mk_Frs k l).take l.length = mk_Frs k l := List.take_of_length_le (by simp)
theorem mk_Frs_at {k : Int} {l : List Fr} {i : Nat} {x : Fr} (h : l[i]? = some x) : (mk_Frs k l)[i]? = some (mk_Fr (k + (cn_Frs (l.take i) : Nat)) x) := by
  induction l generalizing k i with
  | nil => simp at h
  | cons y r ih =>
    cases i with
    | zero => simp at h;subst h;simp [mk_Frs,cn_Frs]
    | succ i => simp at h;simp only [mk_Frs,List.getElem?_cons_succ,ih h,List.take_succ_cons,cn_Frs,wS_cons];congr 2;push_cast;omega
@[simp] theorem alike_frs (t u : Bool) (a b : List Fr) : V.alikeL (frs t a) (frs u b) = decide (a.length = b.length) := alikeL_map (fun _ _ => rfl)
theorem l_mk_Frs (k : Int) (l : List Fr) (hk : 0 ≤ k) (hb : k + (cn_Frs l : Nat) < 1000000000000000000) : ∀ x : Nat × (List Fr),(x.1 ≤ l.length ∧ x.2.length = l.length ∧ x.2.take x.1 = (mk_Frs k l).take x.1 ∧ x.2.drop x.1 = l.drop x.1) → ∀ s,normE 2 (some [0,1,5]) s = ⟨[(0,.ref 0 0 l.length),(1,.int .i64 (k + (cn_Frs (l.take x.1) : Nat))),(5,.int .i64 x.1)],[(0,⟨false,true,6,frs true x.2,0⟩)],2⟩ →
 oc.loop 68 2 s = some (.exit 0,⟨[(1,.int .i64 (k + (cn_Frs l : Nat)))],[(0,⟨false,true,6,frs true (mk_Frs k l),0⟩)],2⟩) := by
 refine loop_ind (σ:=Nat × (List Fr)) (fun x => l.length - x.1) _ (fun x => ⟨[(0,.ref 0 0 l.length),(1,.int .i64 (k + (cn_Frs (l.take x.1) : Nat))),(5,.int .i64 x.1)],[(0,⟨false,true,6,frs true x.2,0⟩)],2⟩) _ ?_
 rintro ⟨i,r⟩ hi ih s hs
 simp only at hi
 refine loop_s cd68 rfl rfl hs ?_
 obtain ⟨hi1,hi2,hi3,hi4⟩ := hi
 have hlen := cn_Frs_len (l:=l)
 refine wa_ (wa_ (wc_region (w_ (m_ (h:=w_ (m_ (h:=w_ (le (h:=w_ (b_ (h:=wo_nil (e_ (h:=aft_normal (?_))))))))))))))
 refine c_ (h1:=?_) (h2:=?_)
 rotate_right 1
 focus
  intro c1
  simp at c1;obtain rfl : i = l.length := (by omega);obtain rfl : r = mk_Frs k l := (by rw [List.take_of_length_le (by omega),List.take_of_length_le (by simp)] at hi3;exact hi3)
  refine wc_exit (?_)
 rotate_right 1
 focus
  intro c1
  simp at c1;have hw := wrap_succ (i:=i) (by omega);obtain ⟨y,hx,_,_⟩ := frs_cut (t:=false) (l:=l) (i:=i) c1;have hy : r[i]? = some y := (by have := congrArg (fun q => q[0]?) hi4;simpa [hx] using this);have g2 : (frs true r)[i]? = some (Fr.v true (y)) := (by simp [frs,hy]);have hcut := wS_cut (f:=cn_Fr) hx;have hle := wS_take (f:=cn_Fr) (l:=l) (i:=i + 1);have hcy : cn_Fr y = 1 + 1 + 1 + 1 + cn_Ets y.set + cn_Cts y.news := rfl;change cn_Frs (l.take (i + 1)) = cn_Frs (l.take i) + cn_Fr y at hcut;change cn_Frs (l.take (i + 1)) ≤ cn_Frs l at hle;have hw0 : IntKind.i64.wrap (k + (cn_Frs (l.take i) : Nat) + 1) = k + (cn_Frs (l.take i) : Nat) + 1 := wrap_id (by omega) (by omega);have hw1 : IntKind.i64.wrap (k + (cn_Frs (l.take i) : Nat) + 1 + 1) = k + (cn_Frs (l.take i) : Nat) + 1 + 1 := wrap_id (by omega) (by omega);have hw2 : IntKind.i64.wrap (k + (cn_Frs (l.take i) : Nat) + 1 + 1 + 1) = k + (cn_Frs (l.take i) : Nat) + 1 + 1 + 1 := wrap_id (by omega) (by omega);have hw3 : IntKind.i64.wrap (k + (cn_Frs (l.take i) : Nat) + 1 + 1 + 1 + 1) = k + (cn_Frs (l.take i) : Nat) + 1 + 1 + 1 + 1 := wrap_id (by omega) (by omega);have hw5 : k + (cn_Frs (l.take i) : Nat) + 1 + 1 + 1 + 1 + (cn_Ets y.set : Nat) + (cn_Cts y.news : Nat) = k + ((cn_Frs (l.take (i + 1)) : Nat) : Int) := (by rw [hcut];omega)
  refine wc_skip (?_)
 all_goals first
 | refine aft_exit ?_
 | (
  refine aft_normal ?_
  refine wa_ (wc_block (wa_ (wc_region (w_ (m_ (h:=w_ (m_ (h:=w_ (m_ (h:=w_ (x_ (h:=w_ (f_ (h:=w0 (s_ (h:=wo_nil (e_ (h:=aft_normal (?_)))))))))))))))))))
  refine wa_ (wc_region (w_ (m_ (h:=w_ (b_ (h:=w_ (a_ (h:=wo_nil (e_ (h:=aft_normal (wa_ (wc_region (w_ (m_ (h:=w_ (m_ (h:=w_ (m_ (h:=?_)))))))))))))))))))
  refine w_ (x_ (h:=w_ (f_ (h:=w0 (s_ (h:=wo_nil (e_ (h:=aft_normal (wa_ (wc_region (w_ (m_ (h:=w_ (b_ (h:=w_ (a_ (h:=wo_nil (e_ (h:=aft_normal (?_))))))))))))))))))))
  refine wa_ (wc_region (w_ (m_ (h:=w_ (m_ (h:=w_ (m_ (h:=w_ (x_ (h:=w_ (f_ (h:=w0 (s_ (h:=wo_nil (e_ (h:=aft_normal (wa_ (wc_region (?_)))))))))))))))))))
  refine w_ (m_ (h:=w_ (b_ (h:=w_ (a_ (h:=wo_nil (e_ (h:=aft_normal (wa_ (wc_region (w_ (m_ (h:=w_ (m_ (h:=w_ (m_ (h:=w_ (x_ (h:=w_ (f_ (h:=?_)))))))))))))))))))))
  refine w0 (s_ (h:=wo_nil (e_ (h:=aft_normal (wa_ (wc_region (w_ (m_ (h:=w_ (b_ (h:=w_ (a_ (h:=wo_nil (e_ (h:=aft_normal (wa_ (wc_region (?_))))))))))))))))))
  refine w_ (m_ (h:=w_ (m_ (h:=w_ (x_ (h:=w_ (f_ (h:=w_ (l_ (h:=w_ (m_ (h:=?_))))))))))))
  first | refine ip (hc:=(by (try simp only [hw0,hw1,hw2,hw3,hw5]);exact mkf_Ets (k + (cn_Frs (l.take i) : Nat) + 1 + 1 + 1 + 1) y.set (by omega) (by omega))) (h:=?_) | refine iq (hc:=(by (try simp only [hw0,hw1,hw2,hw3,hw5]);exact mkf_Ets (k + (cn_Frs (l.take i) : Nat) + 1 + 1 + 1 + 1) y.set (by omega) (by omega))) (h:=?_)
  refine w_ (a_ (h:=wo_nil (e_ (h:=aft_normal (wc_region (w_ (m_ (h:=w_ (m_ (h:=w_ (x_ (h:=w_ (f_ (h:=w_ (l_ (h:=w_ (m_ (h:=?_))))))))))))))))))
  first | refine ip (hc:=(by (try simp only [hw0,hw1,hw2,hw3,hw5]);exact mkf_Cts (k + (cn_Frs (l.take i) : Nat) + 1 + 1 + 1 + 1 + (cn_Ets y.set : Nat)) y.news (by omega) (by omega))) (h:=?_) | refine iq (hc:=(by (try simp only [hw0,hw1,hw2,hw3,hw5]);exact mkf_Cts (k + (cn_Frs (l.take i) : Nat) + 1 + 1 + 1 + 1 + (cn_Ets y.set : Nat)) y.news (by omega) (by omega))) (h:=?_)
  refine w_ (a_ (h:=wo_nil (e_ (h:=blk_normal (aft_normal (wc_region (w_ (m_ (h:=w_ (b_ (h:=w_ (a_ (h:=wo_nil (e_ (h:=?_)))))))))))))))
  )
 all_goals first
 | (refine (ih ((i + 1,r.set i (mk_Fr (k + (cn_Frs (l.take i) : Nat)) y))) (⟨by simp;omega,by simpa using hi2,set_take hi3 (by simpa using hi2) (mk_Frs_at hx),set_drop hi4⟩) ?_ _ ?_).trans ?_;(focus (first | omega | (simp;done) | (simp;omega)));(focus (simp [normE,hw,hw0,hw1,hw2,hw3,hw5,mk_Fr];done));(focus (rfl)))
 | (apply end_leaf (ex:=(Ext.exit 0)) 2 (some [1]);(focus (simp [normE];rfl));(focus (simp)))
theorem mkf_Frs (k : Int) (l : List Fr) (hk : 0 ≤ k) (hb : k + (cn_Frs l : Nat) < 1000000000000000000) : oc.call 68 [.iol 6 (frs true l),.int .i64 k] = some (.int .i64 (k + (cn_Frs l : Nat)),[.lst true 6 (frs true (mk_Frs k l))]) := by
 refine fun_s rfl cd68 rfl rfl rfl (by simp;rfl) (by simp;rfl) ?_
 refine wa_ (wc_region (w_ (a_ (h:=wo_nil (e_ (h:=aft_normal (wa_ (wa_ (wc_region (w_ (a_ (h:=wo_nil (e_ (h:=aft_normal (wc_block (?_))))))))))))))))
 refine wc_loop (l_mk_Frs k l hk hb (0,l) (by simp) _ (by simp [normE,cn_Frs])) ?_
 refine blk_exit (aft_normal (wa_ (wc_region (w_ (m_ (h:=w_ (a_ (h:=wo_nil (e_ (h:=aft_normal (wc_ret (?_))))))))))))
 all_goals (refine fin_ (hr:=(res_tmp rfl res_nil)) (h:=?_);(focus (first | (simp_all;done) | (simp_all <;> omega) | (simp_all <;> split <;> simp_all <;> omega))))
theorem l_held_Frs (k : Int) (l : List Fr) (hk : 0 ≤ k) (hb : k + (cn_Frs l : Nat) < 1000000000000000000) : ∀ i : Nat,(i ≤ l.length) → ∀ s,normE 2 (some [0,1,5]) s = ⟨[(0,.lst false 0 (frs false (mk_Frs k l))),(1,.int .i64 (k + (cn_Frs (l.take i) : Nat))),(5,.int .i64 i)],[],2⟩ →
 oc.loop 69 2 s = some (.exit 0,⟨[(1,.int .i64 (k + (cn_Frs l : Nat)))],[],2⟩) := by
 refine loop_ind (σ:=Nat) (fun i => l.length - i) _ (fun i => ⟨[(0,.lst false 0 (frs false (mk_Frs k l))),(1,.int .i64 (k + (cn_Frs (l.take i) : Nat))),(5,.int .i64 i)],[],2⟩) _ ?_
 intro i hi ih s hs
 refine loop_s cd69 rfl rfl hs ?_
 have hlen := cn_Frs_len (l:=l)
 refine wa_ (wa_ (wc_region (w_ (m_ (h:=w_ (m_ (h:=w_ (le (h:=w_ (b_ (h:=wo_nil (e_ (h:=aft_normal (?_))))))))))))))
 refine c_ (h1:=?_) (h2:=?_)
 rotate_right 1
 focus
  intro c1
  first
  | exact dn c1
  | (
   have d1 := c1;try simp at d1
   obtain rfl : i = l.length := (by omega)
   refine wc_exit (?_)
   )
 rotate_right 1
 focus
  intro c1
  first
  | exact dn c1
  | (
   have d1 := c1;try simp at d1
   have hc1 : i < l.length := (by simpa using d1);have hw := wrap_succ (i:=i) (by omega);obtain ⟨y,hx,_,_⟩ := frs_cut (t:=false) (l:=l) (i:=i) hc1;have g2 : (frs false (mk_Frs k l))[i]? = some (Fr.v false (mk_Fr (k + (cn_Frs (l.take i) : Nat)) y)) := (by simp [frs,mk_Frs_at hx]);have hcut := wS_cut (f:=cn_Fr) hx;have hle := wS_take (f:=cn_Fr) (l:=l) (i:=i + 1);have hcy : cn_Fr y = 1 + 1 + 1 + 1 + cn_Ets y.set + cn_Cts y.news := rfl;change cn_Frs (l.take (i + 1)) = cn_Frs (l.take i) + cn_Fr y at hcut;change cn_Frs (l.take (i + 1)) ≤ cn_Frs l at hle;have hw0 : IntKind.i64.wrap (k + (cn_Frs (l.take i) : Nat) + 1) = k + (cn_Frs (l.take i) : Nat) + 1 := wrap_id (by omega) (by omega);have hw1 : IntKind.i64.wrap (k + (cn_Frs (l.take i) : Nat) + 1 + 1) = k + (cn_Frs (l.take i) : Nat) + 1 + 1 := wrap_id (by omega) (by omega);have hw2 : IntKind.i64.wrap (k + (cn_Frs (l.take i) : Nat) + 1 + 1 + 1) = k + (cn_Frs (l.take i) : Nat) + 1 + 1 + 1 := wrap_id (by omega) (by omega);have hw3 : IntKind.i64.wrap (k + (cn_Frs (l.take i) : Nat) + 1 + 1 + 1 + 1) = k + (cn_Frs (l.take i) : Nat) + 1 + 1 + 1 + 1 := wrap_id (by omega) (by omega);have hw5 : k + (cn_Frs (l.take i) : Nat) + 1 + 1 + 1 + 1 + (cn_Ets y.set : Nat) + (cn_Cts y.news : Nat) = k + ((cn_Frs (l.take (i + 1)) : Nat) : Int) := (by rw [hcut];omega)
   refine wc_skip (?_)
   )
 all_goals first
 | refine aft_exit ?_
 | (
  refine aft_normal ?_
  refine wa_ (wc_block (wa_ (wa_ (wc_region (w_ (m_ (h:=w_ (m_ (h:=w_ (x_ (h:=w_ (f_ (h:=w_ (l_ (h:=w_ (m_ (h:=w_ (bE (h:=?_)))))))))))))))))))
  refine wo_nil (e_ (h:=aft_normal (?_)))
  refine c_ (h1:=?_) (h2:=?_)
  rotate_right 1
  focus
   intro c2
   first
   | exact dn c2
   | (
    have d2 := c2;try simp at d2
    refine wc_skip (?_)
    )
  rotate_right 1
  focus
   intro c2
   first
   | exact dn c2
   | (
    have d2 := c2;try simp at d2
    refine wa_ (wc_region (w_ (a_ (h:=wo_nil (e_ (h:=aft_normal (wc_ret (?_))))))))
    )
  all_goals first
  | refine aft_ret ?_
  | (
   refine aft_normal ?_
   refine wa_ (wc_region (w_ (m_ (h:=w_ (b_ (h:=w_ (a_ (h:=wo_nil (e_ (h:=aft_normal (wa_ (wa_ (wc_region (w_ (m_ (h:=w_ (m_ (h:=?_))))))))))))))))))
   refine w_ (x_ (h:=w_ (f_ (h:=w_ (l_ (h:=w_ (m_ (h:=w_ (bE (h:=wo_nil (e_ (h:=aft_normal (?_)))))))))))))
   refine c_ (h1:=?_) (h2:=?_)
   rotate_right 1
   focus
    intro c3
    first
    | exact dn c3
    | (
     have d3 := c3;try simp at d3
     refine wc_skip (?_)
     )
   rotate_right 1
   focus
    intro c3
    first
    | exact dn c3
    | (
     have d3 := c3;try simp at d3
     refine wa_ (wc_region (w_ (a_ (h:=wo_nil (e_ (h:=aft_normal (wc_ret (?_))))))))
     )
   all_goals first
   | refine aft_ret ?_
   | (
    refine aft_normal ?_
    refine wa_ (wc_region (w_ (m_ (h:=w_ (b_ (h:=w_ (a_ (h:=wo_nil (e_ (h:=aft_normal (wa_ (wa_ (wc_region (w_ (m_ (h:=w_ (m_ (h:=?_))))))))))))))))))
    refine w_ (x_ (h:=w_ (f_ (h:=w_ (l_ (h:=w_ (m_ (h:=w_ (bE (h:=wo_nil (e_ (h:=aft_normal (?_)))))))))))))
    refine c_ (h1:=?_) (h2:=?_)
    rotate_right 1
    focus
     intro c4
     first
     | exact dn c4
     | (
      have d4 := c4;try simp at d4
      refine wc_skip (?_)
      )
    rotate_right 1
    focus
     intro c4
     first
     | exact dn c4
     | (
      have d4 := c4;try simp at d4
      refine wa_ (wc_region (w_ (a_ (h:=wo_nil (e_ (h:=aft_normal (wc_ret (?_))))))))
      )
    all_goals first
    | refine aft_ret ?_
    | (
     refine aft_normal ?_
     refine wa_ (wc_region (w_ (m_ (h:=w_ (b_ (h:=w_ (a_ (h:=wo_nil (e_ (h:=aft_normal (wa_ (wa_ (wc_region (w_ (m_ (h:=w_ (m_ (h:=?_))))))))))))))))))
     refine w_ (x_ (h:=w_ (f_ (h:=w_ (l_ (h:=w_ (m_ (h:=w_ (bE (h:=wo_nil (e_ (h:=aft_normal (?_)))))))))))))
     refine c_ (h1:=?_) (h2:=?_)
     rotate_right 1
     focus
      intro c5
      first
      | exact dn c5
      | (
       have d5 := c5;try simp at d5
       refine wc_skip (?_)
       )
     rotate_right 1
     focus
      intro c5
      first
      | exact dn c5
      | (
       have d5 := c5;try simp at d5
       refine wa_ (wc_region (w_ (a_ (h:=wo_nil (e_ (h:=aft_normal (wc_ret (?_))))))))
       )
     all_goals first
     | refine aft_ret ?_
     | (
      refine aft_normal ?_
      refine wa_ (wc_region (w_ (m_ (h:=w_ (b_ (h:=w_ (a_ (h:=wo_nil (e_ (h:=aft_normal (wa_ (wc_region (w_ (m_ (h:=w_ (m_ (h:=w_ (x_ (h:=?_)))))))))))))))))))
      refine w_ (f_ (h:=w_ (l_ (h:=w_ (m_ (h:=w_ (ca (hc:=(by (try simp only [hw0,hw1,hw2,hw3,hw5]);exact held_Ets (k + (cn_Frs (l.take i) : Nat) + 1 + 1 + 1 + 1) y.set (by omega) (by omega))) (h:=w_ (a_ (h:=wo_nil (e_ (h:=aft_normal (wa_ (wa_ (wc_region (w_ (m_ (h:=w_ (b_ (h:=?_))))))))))))))))))))
      refine wo_nil (e_ (h:=aft_normal (?_)))
      refine c_ (h1:=?_) (h2:=?_)
      rotate_right 1
      focus
       intro c6
       first
       | exact dn c6
       | (
        have d6 := c6;try simp at d6
        refine wc_skip (?_)
        )
      rotate_right 1
      focus
       intro c6
       first
       | exact dn c6
       | (
        have d6 := c6;try simp at d6
        refine wa_ (wc_region (w_ (a_ (h:=wo_nil (e_ (h:=aft_normal (wc_ret (?_))))))))
        )
      all_goals first
      | refine aft_ret ?_
      | (
       refine aft_normal ?_
       refine wa_ (wc_region (w_ (m_ (h:=w_ (m_ (h:=w_ (x_ (h:=w_ (f_ (h:=w_ (l_ (h:=w_ (m_ (h:=w_ (ca (hc:=(by (try simp only [hw0,hw1,hw2,hw3,hw5]);exact held_Cts (k + (cn_Frs (l.take i) : Nat) + 1 + 1 + 1 + 1 + (cn_Ets y.set : Nat)) y.news (by omega) (by omega))) (h:=w_ (a_ (h:=wo_nil (e_ (h:=aft_normal (?_)))))))))))))))))))))
       refine wa_ (wc_region (w_ (m_ (h:=w_ (b_ (h:=wo_nil (e_ (h:=aft_normal (?_)))))))))
       refine c_ (h1:=?_) (h2:=?_)
       rotate_right 1
       focus
        intro c7
        first
        | exact dn c7
        | (
         have d7 := c7;try simp at d7
         refine wc_skip (?_)
         )
       rotate_right 1
       focus
        intro c7
        first
        | exact dn c7
        | (
         have d7 := c7;try simp at d7
         refine wa_ (wc_region (w_ (a_ (h:=wo_nil (e_ (h:=aft_normal (wc_ret (?_))))))))
         )
       )
      )
     )
    )
   )
  all_goals first | refine blk_normal ?_ | refine blk_ret ?_
  all_goals first
  | refine aft_ret ?_
  | (
   refine aft_normal ?_
   refine wc_region (w_ (m_ (h:=w_ (b_ (h:=w_ (a_ (h:=wo_nil (e_ (h:=?_)))))))))
   )
  )
 all_goals first
 | (refine (ih (i + 1) (by omega) ?_ _ ?_).trans ?_;(focus (first | omega | (simp;done) | (simp;omega)));(focus (simp [normE,hw,hw0,hw1,hw2,hw3,hw5];done));(focus (rfl)))
 | (apply end_leaf (ex:=(Ext.exit 0)) 2 (some [1,4]);(focus (simp [normE];rfl));(focus (simp)))
 | (apply end_leaf (ex:=Ext.ret) 2 (some [1,4]);(focus (simp [normE];rfl));(focus (exfalso;clear ih hs hw;simp only [hw0,hw1,hw2,hw3] at *;simp at *)))
theorem held_Frs (k : Int) (l : List Fr) (hk : 0 ≤ k) (hb : k + (cn_Frs l : Nat) < 1000000000000000000) : oc.call 69 [.lst false 0 (frs false (mk_Frs k l)),.int .i64 k] = some (.int .i64 (k + (cn_Frs l : Nat)),[]) := by
 refine fun_s rfl cd69 rfl rfl rfl (by simp;rfl) (by simp;rfl) ?_
 refine wa_ (wc_region (w_ (a_ (h:=wo_nil (e_ (h:=aft_normal (wa_ (wa_ (wc_region (w_ (a_ (h:=wo_nil (e_ (h:=aft_normal (wc_block (?_))))))))))))))))
 refine wc_loop (l_held_Frs k l hk hb 0 (by omega) _ (by simp [normE,cn_Frs])) ?_
 first | refine blk_ret ?_ | refine blk_exit ?_
 all_goals first
 | refine aft_ret ?_
 | (
  refine aft_normal ?_
  refine wa_ (wc_region (w_ (m_ (h:=w_ (a_ (h:=wo_nil (e_ (h:=aft_normal (wc_ret (?_))))))))))
  )
 all_goals (refine fin_ (hr:=(res_tmp rfl res_nil)) (h:=?_);(focus (first | (simp_all;done) | (simp_all <;> omega) | (simp_all <;> split <;> simp_all <;> omega))))
def etss (t : Bool) (l : List (List Et)) : List V := l.map fun x => .lst t (lz t 2) (ets t x)
@[simp] theorem etss_len (t : Bool) (l : List (List Et)) : (etss t l).length = l.length := by simp [etss]
@[simp] theorem etss_nil (t : Bool) : etss t [] = [] := rfl
@[simp] theorem etss_cons (t : Bool) (x : List Et) (l : List (List Et)) : etss t (x :: l) = .lst t (lz t 2) (ets t x) :: etss t l := rfl
@[simp] theorem etss_join (t : Bool) (l m : List (List Et)) : etss t l ++ etss t m = etss t (l ++ m) := by simp [etss]
@[simp] theorem etss_snocT (l : List (List Et)) (x : List Et) : etss true l ++ [.lst true 2 (ets true x)] = etss true (l ++ [x]) := by simp [etss]
@[simp] theorem etss_snocF (l : List (List Et)) (x : List Et) : etss false l ++ [.lst false 0 (ets false x)] = etss false (l ++ [x]) := by simp [etss]
@[simp] theorem etss_setT (l : List (List Et)) (i : Nat) (x : List Et) : (etss true l).set i (.lst true 2 (ets true x)) = etss true (l.set i x) := by simp [etss,List.map_set]
@[simp] theorem etss_setF (l : List (List Et)) (i : Nat) (x : List Et) : (etss false l).set i (.lst false 0 (ets false x)) = etss false (l.set i x) := by simp [etss,List.map_set]
theorem etss_zero (m : Nat) : List.replicate m (V.lst true 2 []) = etss true (List.replicate m []) := by simp [etss]
theorem etss_get {t : Bool} {l : List (List Et)} {i : Nat} {x : List Et} (h : l[i]? = some x) : (etss t l)[i]? = some (.lst t (lz t 2) (ets t x)) := by simp [etss,h]
theorem etss_at {t : Bool} {l : List (List Et)} {i : Nat} (h : i < l.length) : (etss t l)[(i : Int).toNat]? = some (.lst t (lz t 2) (ets t l[i])) := etss_get (by simp [h])
theorem etss_cut {t : Bool} {l : List (List Et)} {i : Nat} (h : i < l.length) : ∃ x,l[i]? = some x ∧ l.drop i = x :: l.drop (i + 1) ∧ (etss t l)[(i : Int).toNat]? = some (.lst t (lz t 2) (ets t x)) :=
  ⟨l[i],by simp [h],List.drop_eq_getElem_cons h,etss_at h⟩
@[simp] theorem etss_take (t : Bool) (n : Nat) (l : List (List Et)) : (etss t l).take n = etss t (l.take n) := by simp [etss,List.map_take]
@[simp] theorem etss_drop (t : Bool) (n : Nat) (l : List (List Et)) : (etss t l).drop n = etss t (l.drop n) := by simp [etss,List.map_drop]
@[simp] theorem etss_shareL (t : Bool) (l : List (List Et)) : V.shareL (etss t l) = etss false l := by
  induction l with
  | nil => rfl
  | cons x l ih => simp [V.shareL,ih,lst_share]
@[simp] theorem etss_tidyT (l : List (List Et)) : V.tidyL (etss true l) = true := by
  induction l with
  | nil => rfl
  | cons x l ih => simp [V.tidyL,V.tidy,ih]
theorem alikeL_lss {α β : Type} {f : α → V} {g : β → V} (hf : ∀ x y,(f x).alike (g y) = true) : ∀ {a : List α} {b : List β},V.alikeL (a.map f) (b.map g) = decide (a.length = b.length)
  | [],[] => rfl
  | [],_ :: _ => by simp [V.alikeL]
  | _ :: _,[] => by simp [V.alikeL]
  | x :: a,y :: b => by simp only [List.map_cons,V.alikeL,hf,Bool.true_and,alikeL_lss hf (a:=a) (b:=b),List.length_cons,Nat.add_right_cancel_iff]
@[simp] theorem alike_etss (t u : Bool) (a b : List (List Et)) : V.alikeL (etss t a) (etss u b) = decide (a.length = b.length) := alikeL_lss (fun _ _ => rfl)
def frss (t : Bool) (l : List (List Fr)) : List V := l.map fun x => .lst t (lz t 6) (frs t x)
@[simp] theorem frss_len (t : Bool) (l : List (List Fr)) : (frss t l).length = l.length := by simp [frss]
@[simp] theorem frss_nil (t : Bool) : frss t [] = [] := rfl
@[simp] theorem frss_cons (t : Bool) (x : List Fr) (l : List (List Fr)) : frss t (x :: l) = .lst t (lz t 6) (frs t x) :: frss t l := rfl
@[simp] theorem frss_join (t : Bool) (l m : List (List Fr)) : frss t l ++ frss t m = frss t (l ++ m) := by simp [frss]
@[simp] theorem frss_snocT (l : List (List Fr)) (x : List Fr) : frss true l ++ [.lst true 6 (frs true x)] = frss true (l ++ [x]) := by simp [frss]
@[simp] theorem frss_snocF (l : List (List Fr)) (x : List Fr) : frss false l ++ [.lst false 0 (frs false x)] = frss false (l ++ [x]) := by simp [frss]
@[simp] theorem frss_setT (l : List (List Fr)) (i : Nat) (x : List Fr) : (frss true l).set i (.lst true 6 (frs true x)) = frss true (l.set i x) := by simp [frss,List.map_set]
@[simp] theorem frss_setF (l : List (List Fr)) (i : Nat) (x : List Fr) : (frss false l).set i (.lst false 0 (frs false x)) = frss false (l.set i x) := by simp [frss,List.map_set]
@[simp] theorem frss_take (t : Bool) (n : Nat) (l : List (List Fr)) : (frss t l).take n = frss t (l.take n) := by simp [frss,List.map_take]
@[simp] theorem frss_drop (t : Bool) (n : Nat) (l : List (List Fr)) : (frss t l).drop n = frss t (l.drop n) := by simp [frss,List.map_drop]
@[simp] theorem frss_shareL (t : Bool) (l : List (List Fr)) : V.shareL (frss t l) = frss false l := by
  induction l with
  | nil => rfl
  | cons x l ih => simp [V.shareL,ih,lst_share]
@[simp] theorem frss_tidyT (l : List (List Fr)) : V.tidyL (frss true l) = true := by
  induction l with
  | nil => rfl
  | cons x l ih => simp [V.tidyL,V.tidy,ih]
@[simp] theorem alike_frss (t u : Bool) (a b : List (List Fr)) : V.alikeL (frss t a) (frss u b) = decide (a.length = b.length) := alikeL_lss (fun _ _ => rfl)
end Go.Proofs.Ytbcgenkegnmkhaa.Ev
namespace Go.Proofs.Ytbcgenkegnmkhaa.Ev
open Go
set_option maxRecDepth 100000
set_option linter.unusedSimpArgs false
set_option linter.unusedVariables false
set_option maxHeartbeats 2000000
def mk_Etss (k : Int) : List (List Et) → List (List Et)
  | [] => []
  | x :: r => mk_Ets k x :: mk_Etss (k + (cn_Ets x : Nat)) r
@[simp] theorem mk_Etss_len {k : Int} {l : List (List Et)} : (mk_Etss k l).length = l.length := by
  induction l generalizing k with
  | nil => rfl
  | cons x r ih => simp [mk_Etss,ih]
@[simp] theorem mk_Etss_take {k : Int} {l : List (List Et)} : (mk_Etss k l).take l.length = mk_Etss k l := List.take_of_length_le (by simp)
theorem cellsAll_map {α : Type} {f : α → V} {k : Nat} (h : ∀ x,(f x).cells = k) : ∀ l : List α,V.cellsAll k (l.map f) = true
  | [] => rfl
  | x :: l => by simp only [List.map_cons,V.cellsAll,List.all_cons,h,decide_true,Bool.true_and];exact cellsAll_map h l
@[simp] theorem cellsAll_ints (l : List Int) : V.cellsAll 1 (ints l) = true := cellsAll_map (f:=.int .i64) (fun _ => rfl) l
@[simp] theorem cellsAll_ets (t : Bool) (l : List Et) : V.cellsAll 2 (ets t l) = true := cellsAll_map (f:=Et.v t) (fun _ => rfl) l
@[simp] theorem cellsAll_cts (l : List Ct) : V.cellsAll 3 (cts l) = true := cellsAll_map (f:=Ct.v) (fun _ => rfl) l
@[simp] theorem cellsAll_frs (t : Bool) (l : List Fr) : V.cellsAll 6 (frs t l) = true := cellsAll_map (f:=Fr.v t) (fun _ => rfl) l
@[simp] theorem cellsAll_nds (t : Bool) (s : Nat) (l : List Nd) : V.cellsAll 7 (nds t s l) = true := cellsAll_map (f:=fun d : Nd => d.v t s) (fun _ => rfl) l
theorem c1_I (l : List Int) (hl : l.length < 2000000) (h : l ≠ []) : runE oc cf 133 [.lst false 0 (ints l)] = some (.lst true 1 (ints l),[]) := by
 refine run_s cd133 rfl rfl rfl (by first | (simp;rfl) | rfl) (by first | (simp;rfl) | rfl) ?_
 have hne : ints l ≠ [] := by simpa [ints] using h
 refine wa_ (wc_region (w_ (aN (h:=wo_nil (e_ (h:=aft_normal (wa_ (wa_ (wc_region (w_ (m_ (h:=w_ (bN (h:=wo_nil (e_ (h:=aft_normal (?_)))))))))))))))))
 refine c_ (h1:=?_) (h2:=?_)
 rotate_right 1
 focus
  intro c1
  refine wc_skip (?_)
 rotate_right 1
 focus
  intro c1
  refine wa_ (wc_region (w_ (aN (h:=wo_nil (e_ (h:=aft_normal (wc_ret (?_))))))))
 all_goals first
 | refine aft_ret ?_
 | (
  refine aft_normal ?_
  refine wa_ (wc_region (w_ (bs (h:=w_ (m_ (h:=w_ (ap (h:=w_ (a_ (h:=wo_nil (e_ (h:=aft_normal (wc_ret (?_))))))))))))))
  )
 all_goals (refine fin_ (hr:=(res_tmp rfl res_nil)) (h:=?_);(focus (first | (simp_all;done) | (simp_all <;> omega) | (simp_all <;> split <;> simp_all <;> omega))))
theorem c2_I  : runE oc cf 133 [.emp true] = some (.lst true 1 [],[]) := by
 refine run_s cd133 rfl rfl rfl (by first | (simp;rfl) | rfl) (by first | (simp;rfl) | rfl) ?_
 refine wa_ (wc_region (w_ (aN (h:=wo_nil (e_ (h:=aft_normal (wa_ (wa_ (wc_region (w_ (m_ (h:=w_ (bN (h:=wo_nil (e_ (h:=aft_normal (?_)))))))))))))))))
 refine c_ (h1:=?_) (h2:=?_)
 rotate_right 1
 focus
  intro c1
  first
  | exact dn c1
  | (
   have d1 := c1;try simp at d1
   refine wc_skip (?_)
   )
 rotate_right 1
 focus
  intro c1
  first
  | exact dn c1
  | (
   have d1 := c1;try simp at d1
   refine wa_ (wc_region (w_ (aN (h:=wo_nil (e_ (h:=aft_normal (wc_ret (?_))))))))
   )
 all_goals first
 | refine aft_ret ?_
 | (
  refine aft_normal ?_
  refine wa_ (wc_region (w_ (bs (h:=w_ (m_ (h:=w_ (ap (h:=w_ (a_ (h:=wo_nil (e_ (h:=aft_normal (wc_ret (?_))))))))))))))
  )
 all_goals (refine fin_ (hr:=(res_tmp rfl res_nil)) (h:=?_);(focus (first | (simp_all;done) | (simp_all <;> omega) | (simp_all <;> split <;> simp_all <;> omega))))
theorem c3_I  : runE oc cf 133 [.emp false] = some (.lst true 1 [],[]) := by
 refine run_s cd133 rfl rfl rfl (by first | (simp;rfl) | rfl) (by first | (simp;rfl) | rfl) ?_
 refine wa_ (wc_region (w_ (aN (h:=wo_nil (e_ (h:=aft_normal (wa_ (wa_ (wc_region (w_ (m_ (h:=w_ (bN (h:=wo_nil (e_ (h:=aft_normal (?_)))))))))))))))))
 refine c_ (h1:=?_) (h2:=?_)
 rotate_right 1
 focus
  intro c1
  first
  | exact dn c1
  | (
   have d1 := c1;try simp at d1
   refine wc_skip (?_)
   )
 rotate_right 1
 focus
  intro c1
  first
  | exact dn c1
  | (
   have d1 := c1;try simp at d1
   refine wa_ (wc_region (w_ (aN (h:=wo_nil (e_ (h:=aft_normal (wc_ret (?_))))))))
   )
 all_goals first
 | refine aft_ret ?_
 | (
  refine aft_normal ?_
  refine wa_ (wc_region (w_ (bs (h:=w_ (m_ (h:=w_ (?_)))))))
  refine ap (hlen:=by decide) (h:=?_)
  refine w_ (a_ (h:=wo_nil (e_ (h:=aft_normal (wc_ret (?_))))))
  )
 all_goals (refine fin_ (hr:=(res_tmp rfl res_nil)) (h:=?_);(focus (first | (simp_all;done) | (simp_all <;> omega) | (simp_all <;> split <;> simp_all <;> omega))))
theorem e_cloneI (l : List Int) (hl : l.length < 2000000) : oc.call 133 [.lst false 0 (ints l)] = some (.lst true 1 (ints l),[]) :=
  nil_s rfl (fun h => c1_I l hl (by rintro rfl;exact h rfl)) (fun h => by have : l = [] := (by simpa [ints] using h);subst this;exact c2_I) (fun h => by have : l = [] := (by simpa [ints] using h);subst this;exact c3_I)
end Go.Proofs.Ytbcgenkegnmkhaa.Ev
namespace Go.Proofs.Ytbcgenkegnmkhaa.Ev
open Go
set_option maxRecDepth 100000
set_option linter.unusedSimpArgs false
set_option linter.unusedVariables false
set_option maxHeartbeats 2000000
section
variable {call : Call} {id base : Nat} {e : List (Nat × V)} {o : List (Nat × Ob)} {n : Nat} {t : TypeId} {K : V → List (Nat × Ob) → Prop}
theorem apP {args : Array Operand} {ts : Array TypeId} {t1 t2 e1 e2 : TypeId} {y z : V} {ys ws bs : List V} {r1 : Option (List V × St)} {sz : Nat} {o1 : List (Nat × Ob)} {id' q j ver m m2 : Nat} {fs : List Nat} {ob : Ob} {x xu : V} (hx : opsV e args.toList = some [.plc q j fs ver m,y] := by exact rfl) (h1 : ts[0]? = some t1 := by exact rfl) (h2 : ts[1]? = some t2 := by exact rfl) (he1 : cf.elem t1 = some e1 := by exact tys_ok.elem _ _ rfl) (hz : cf.zero e1 = some z := by exact tys_ok.zero _ _ rfl) (he2 : cf.elem t2 = some e2 := by exact tys_ok.elem _ _ rfl)
    (hel : St.elems ⟨[],o,n⟩ base y = r1 := by (simp;rfl)) (hel2 : r1 = some (ys,⟨[],o1,n⟩) := by rfl) (ho : geta o1 q = some ob := by exact rfl) (hv : ob.ver = ver := by rfl) (hg : ob.xs[j]? = some x := by first | assumption | exact set_at (by assumption)) (hgf : getF x fs = some (.lst true sz bs) := by exact rfl) (hl : bs.length = m := by first | rfl | simp) (hsu : setF x fs .und = some xu := by exact rfl)
    (hid : id = id' := by ((try simp);rfl)) (hsz : sz = z.cells := by rfl) (hc : V.cellsAll z.cells ys = true := by (simp [*];try rfl)) (hw : bs ++ ys = ws := by ((try simp);rfl)) (hm : ws.length = m2 := by ((try simp);rfl)) (hlen : m2 < maxV := by (simp <;> omega))
    (h : K (.ref id' 0 m2) ((id',⟨false,false,z.cells,ws,0⟩) :: (q,⟨ob.bx,ob.fx,ob.sz,ob.xs.set j xu,ver + 1⟩) :: o1)) : opK call cf id base e o n t (.call ⟨.builtin .append,args,ts⟩) K := by
  subst hl hv
  have hget : ob.get j fs = some (.lst true sz bs) := by simp only [Ob.get,hg,hgf]
  have hset : ob.set j fs .und = some { ob with xs := ob.xs.set j xu } := by simp only [Ob.set,hg,hsu,mp_some]
  have hat : St.at ⟨[],o1,n⟩ q j fs ob.ver bs.length = some (sz,bs,ob) := by simp only [St.at,ho,hget,if_true]
  have htk : St.take ⟨[],o1,n⟩ q j fs ob.ver bs.length = some (sz,bs,⟨[],(q,⟨ob.bx,ob.fx,ob.sz,ob.xs.set j xu,ob.ver + 1⟩) :: o1,n⟩) := by simp only [St.take,hat,hset,mp_some,puta]
  exact k_appendS hx h1 h2 he1 hz he2 hel hel2 htk rfl hid hsz hc hw hm hlen h
end
def longE (z : List Et) (k : Int) : Bool := z.any fun e => decide ((e.row.length : Int) < k)
theorem row_in {z : List Et} (hz : w_Ets z < 2000000) {e : Et} (h : e ∈ z) : e.row.length < 2000000 := by
  have := w_Ets_mem h;unfold w_Et at this;omega
def partsN (f : List Int → Int) (m : Nat) (z : List Et) : List (List Et) := (List.range m).map fun (k : Nat) => z.filter fun e => decide (f e.row = (k : Int))
@[simp] theorem partsN_len {f : List Int → Int} {m : Nat} {z : List Et} : (partsN f m z).length = m := by simp [partsN]
@[simp] theorem partsN_take {f : List Int → Int} {m : Nat} {z : List Et} : (partsN f m z).take m = partsN f m z := List.take_of_length_le (by simp)
theorem partsN_nil {f : List Int → Int} {m : Nat} : partsN f m [] = List.replicate m [] := by
  apply List.ext_getElem <;> simp [partsN]
theorem partsN_snoc {f : List Int → Int} {m : Nat} {z : List Et} {e : Et} {i : Nat} (he : z[i]? = some e) (h0 : 0 ≤ f e.row) (h1 : f e.row < m) : ∃ q,(partsN f m (z.take i))[(f e.row).toNat]? = some q ∧ q.length ≤ z.length ∧ (partsN f m (z.take i)).set (f e.row).toNat (q ++ [e]) = partsN f m (z.take (i + 1)) := by
  have hk : (f e.row).toNat < m := by omega
  refine ⟨(z.take i).filter (fun x => decide (f x.row = ((f e.row).toNat : Int))),?_,?_,?_⟩
  · simp [partsN,hk]
  · exact Nat.le_trans (List.length_filter_le _ _) (by simp;omega)
  · have ht : z.take (i + 1) = z.take i ++ [e] := by
      have hlt := (List.getElem?_eq_some_iff.1 he).1
      rw [List.take_add_one,he];rfl
    rw [ht]
    apply List.ext_getElem?
    intro n
    by_cases hn : n = (f e.row).toNat
    · subst hn
      have hto : ((f e.row).toNat : Int) = f e.row := Int.toNat_of_nonneg h0
      simp [partsN,hk,List.filter_append,hto]
    · rw [List.getElem?_set_ne (Ne.symm hn)]
      by_cases hm : n < m
      · simp [partsN,hm,List.filter_append];omega
      · simp [partsN,hm]
theorem partsN_mem {f : List Int → Int} {m : Nat} {z : List Et} {q : List Et} (h : q ∈ partsN f m z) : q.Sublist z := by
  simp only [partsN,List.mem_map] at h
  obtain ⟨k,_,rfl⟩ := h
  exact List.filter_sublist
theorem longE_row {z : List Et} {k : Int} (h : longE z k = false) {e : Et} (he : e ∈ z) : k ≤ e.row.length := by
  simp [longE] at h;exact h e he
@[simp] abbrev srv (r : Int × List (List Et)) : V := .agg [.int .i64 r.1,.lst true 1 (etss true r.2)]
@[simp] abbrev srF (r : Int × List (List Et)) : V := .agg [.int .i64 r.1,.lst false 0 (etss false r.2)]
end Go.Proofs.Ytbcgenkegnmkhaa.Ev
namespace Go.Proofs.Ytbcgenkegnmkhaa.Ev
open Go
set_option maxRecDepth 100000
set_option linter.unusedSimpArgs false
set_option linter.unusedVariables false
set_option maxHeartbeats 2000000
theorem e_l2Row (r : List Int) (h : r.length < 2000000) : oc.call 130 [.lst false 0 (ints r)] = some (.lst true 1 (ints r),[]) := by
 refine fun_s rfl cd130 rfl rfl rfl (by simp;rfl) (by simp;rfl) ?_
 refine wa_ (wc_region (w_ (aN (h:=wo_nil (e_ (h:=aft_normal (wa_ (wc_region (w_ (bs (h:=w_ (m_ (h:=w_ (ap (h:=w_ (a_ (h:=wo_nil (e_ (h:=?_)))))))))))))))))))
 refine aft_normal (wc_ret (?_))
 all_goals (refine fin_ (hr:=(res_tmp rfl res_nil)) (h:=?_);(focus (first | (simp_all;done) | (simp_all <;> omega) | (simp_all <;> split <;> simp_all <;> omega))))
theorem wS_sub {α : Type} {f : α → Nat} {l m : List α} (h : l.Sublist m) : wS f l ≤ wS f m := by
  induction h with
  | slnil => simp
  | cons x _ ih => simp only [wS_cons];omega
  | cons_cons x _ ih => simp only [wS_cons];omega
theorem w_Ets_sub {l m : List Et} (h : l.Sublist m) : w_Ets l ≤ w_Ets m := by
  have h1 := h.length_le;have h2 := wS_sub (f:=w_Et) h;unfold w_Ets;omega
theorem cn_Ets_eq {l : List Et} : cn_Ets l = w_Ets l := by
  unfold cn_Ets w_Ets
  induction l with
  | nil => rfl
  | cons x r ih => simp only [wS_cons,List.length_cons,ih,cn_Et,w_Et];omega
theorem wS_leS {α : Type} {f : α → Nat} {c : Nat} {l : List α} (h : ∀ x ∈ l,f x ≤ c) : wS f l ≤ l.length * c := by
  induction l with
  | nil => simp
  | cons x r ih =>
    have h1 := h x (List.mem_cons_self ..)
    have h2 := ih (fun y hy => h y (List.mem_cons_of_mem _ hy))
    simp only [wS_cons,List.length_cons,Nat.succ_mul]
    omega
def rtf (pl : List Nd) (a m sf : Int) (r : List Int) : Int := dstN pl a m sf r
theorem l_rouS (pl : List Nd) (a sf : Int) (z : List Et) (m : Nat) (hp : pl.length < 2000000) (hk : okN pl) (hc : routeC pl a m sf = 0) (hz : w_Ets z < 2000000) (hm : 0 < m) (hm2 : m < 2000000) (h1 : longE z (keyN pl a) = false) : ∀ i : Nat,(i ≤ z.length) → ∀ s,normE 5 (some [0,1,2,3,4,11,12]) s = ⟨[(0,.lst false 0 (nds false 0 pl)),(1,.int .i64 a),(2,.int .i64 m),(3,.int .i64 sf),(4,.lst false 0 (ets false z)),(11,.ref 5 0 m),(12,.int .i64 i)],[(5,⟨false,false,1,etss true (partsN (rtf pl a m sf) m (z.take i)),0⟩)],6⟩ →
 oc.loop 103 3 s = some (.exit 0,⟨[(11,.ref 5 0 m)],[(5,⟨false,false,1,etss true (partsN (rtf pl a m sf) m z),0⟩)],6⟩) := by
 refine loop_ind (σ:=Nat) (fun i => z.length - i) _ (fun i => ⟨[(0,.lst false 0 (nds false 0 pl)),(1,.int .i64 a),(2,.int .i64 m),(3,.int .i64 sf),(4,.lst false 0 (ets false z)),(11,.ref 5 0 m),(12,.int .i64 i)],[(5,⟨false,false,1,etss true (partsN (rtf pl a m sf) m (z.take i)),0⟩)],6⟩) _ ?_
 intro i hi ih s hs
 refine loop_s cd103 rfl rfl hs ?_
 have hzl := w_Ets_len (l:=z)
 refine wa_ (wa_ (wc_region (w_ (m_ (h:=w_ (m_ (h:=w_ (le (h:=w_ (b_ (h:=wo_nil (e_ (h:=aft_normal (?_))))))))))))))
 refine c_ (h1:=?_) (h2:=?_)
 rotate_right 1
 focus
  intro c1
  first
  | exact dn c1
  | (
   have d1 := c1;try simp at d1
   refine wc_exit (?_)
   )
 rotate_right 1
 focus
  intro c1
  first
  | exact dn c1
  | (
   have d1 := c1;try simp at d1
   have hw := wrap_succ (i:=i) (by omega);obtain ⟨c,hx,e1,g1⟩ := ets_cut (t:=false) (l:=z) (i:=i) (by omega);have hcm := List.mem_of_getElem? hx;have hcr := row_in hz hcm;have hlong := longE_row h1 hcm;have hsh := dstN_in (r:=c.row) hc;obtain ⟨q,hq,hql,hqs⟩ := partsN_snoc (f:=rtf pl a m sf) (m:=m) hx hsh.1 hsh.2;have g2 : (etss true (partsN (rtf pl a m sf) m (z.take i)))[(dstN pl a m sf c.row).toNat]? = some (.lst true 2 (ets true q)) := etss_get (t:=true) hq;change (partsN (rtf pl a m sf) m (z.take i)).set (dstN pl a m sf c.row).toNat (q ++ [c]) = _ at hqs;have hqt : List.take (q.length + 1) (q ++ [({ row := c.row,w := c.w } : Et)]) = q ++ [c] := List.take_of_length_le (by simp)
   refine wc_skip (?_)
   )
 all_goals first
 | refine aft_exit ?_
 | (
  refine aft_normal ?_
  refine wa_ (wc_block (wa_ (wc_region (w_ (m_ (h:=w_ (m_ (h:=w_ (m_ (h:=w_ (m_ (h:=w_ (m_ (h:=w_ (m_ (h:=w_ (x_ (h:=w_ (f_ (h:=?_))))))))))))))))))))
  refine w_ (l_ (h:=w_ (ca (hc:=e_goS pl a m sf c.row hp hk hc hcr hlong) (h:=w_ (a_ (h:=wo_nil (e_ (h:=aft_normal (wc_draw (y_ (m_ (h:=ax_ (h:=y_ (m_ (h:=ax_ (h:=y_ (m_ (h:=ax_ (h:=y_ (m_ (h:=ax_ (h:=y_ (x_ (h:=ax_ (h:=y_ (l_ (h:=ax_ (h:=?_))))))))))))))))))))))))))))
  refine y_ (m_ (h:=ax_ (h:=y_ (m_ (h:=ax_ (h:=y_ (x_ (h:=ax_ (h:=y_ (f_ (h:=ax_ (h:=y_ (l_ (h:=ax_ (h:=y_ (ca (hc:=e_l2Row c.row hcr) (h:=ax_ (h:=y_ (m_ (h:=ax_ (h:=y_ (m_ (h:=ax_ (h:=y_ (x_ (h:=ax_ (h:=y_ (f_ (h:=ax_ (h:=y_ (l_ (h:=ax_ (h:=y_ (bd (h:=ax_ (h:=?_))))))))))))))))))))))))))))))))))))
  refine y_ (bs (h:=ax_ (h:=y_ (?_))))
  refine apP (h:=?_)
  refine ax_ (h:=y_ (x_ (h:=ax_ (h:=y0 (s_ (h:=ax_ (h:=wo_nil (ed (h:=blk_normal (aft_normal (wc_region (w_ (m_ (h:=w_ (b_ (h:=w_ (a_ (h:=wo_nil (e_ (h:=?_))))))))))))))))))))
  )
 all_goals first
 | (refine (ih (i + 1) (by omega) ?_ _ ?_).trans ?_;(focus (first | omega | (simp;done) | (simp;omega)));(focus (simp [normE,hw,hqt,hqs];done));(focus (rfl)))
 | (apply end_leaf (ex:=(Ext.exit 0)) 5 (some [11]);(focus (simp [normE];rfl));(focus (rw [List.take_of_length_le (by omega)])))
theorem e_rou2 (pl : List Nd) (a sf : Int) (z : List Et) (m : Nat) (hp : pl.length < 2000000) (hk : okN pl) (hc : routeC pl a m sf = 0) (hz : w_Ets z < 2000000) (hm : 0 < m) (hm2 : m < 2000000) (h1 : longE z (keyN pl a) = false) : oc.call 103 [.lst false 0 (nds false 0 pl),.int .i64 a,.int .i64 m,.int .i64 sf,.lst false 0 (ets false z)] = some (.lst true 1 (etss true (partsN (rtf pl a m sf) m z)),[]) := by
 refine fun_s rfl cd103 rfl rfl rfl (by simp;rfl) (by simp;rfl) ?_
 have hzl := w_Ets_len (l:=z)
 refine wa_ (wc_region (w_ (aN (h:=wo_nil (e_ (h:=aft_normal (wa_ (wc_region (w_ (m_ (h:=w_ (mk (h:=w_ (a_ (h:=wo_nil (e_ (h:=aft_normal (?_))))))))))))))))))
 refine wa_ (wa_ (wc_region (w_ (a_ (h:=wo_nil (e_ (h:=aft_normal (wc_block (?_)))))))))
 refine wc_loop (l_rouS pl a sf z m hp hk hc hz hm hm2 h1 0 (by omega) _ (by simp [normE,partsN_nil,etss_zero])) ?_
 refine blk_exit (aft_normal (wa_ (wc_region (w_ (m_ (h:=w_ (a_ (h:=wo_nil (e_ (h:=aft_normal (wc_ret (?_))))))))))))
 all_goals (refine fin_ (hr:=(res_tmp rfl res_nil)) (h:=?_);(focus (first | (simp_all;done) | (simp_all <;> omega) | (simp_all <;> split <;> simp_all <;> omega))))
theorem cn_Nds_lt {l : List Nd} (hp : l.length < 2000000) (hk : okN l) : cn_Nds l < 5000000000000 := by
  have h1 : cn_Nds l ≤ l.length * 2000006 := wS_leS (f:=cn_Nd) (fun x hx => by have := hk x hx;unfold cn_Nd;omega)
  have h2 : l.length * 2000006 ≤ 2000000 * 2000006 := Nat.mul_le_mul_right _ (by omega)
  omega
end Go.Proofs.Ytbcgenkegnmkhaa.Ev
namespace Go.Proofs.Ytbcgenkegnmkhaa.Ev
open Go
set_option maxRecDepth 100000
set_option linter.unusedSimpArgs false
set_option linter.unusedVariables false
set_option maxHeartbeats 2000000
theorem lookR_stepK {pl : List Nd} : ∀ (r : List Nd) (ws : List Int),r = pl.drop ws.length → (lookR pl r ws).2 = 0 → (lookR pl r ws).1.take ws.length = ws ∧ ∀ (n : Nat) (d : Nd),ws.length ≤ n → pl[n]? = some d → stepC pl d ((lookR pl r ws).1.take n) = 0
  | [],ws,e,h => by
    have hl : pl.length ≤ ws.length := by have := congrArg List.length e;simp at this;omega
    refine ⟨by simp [lookR],fun n d hn hd => ?_⟩
    have := (List.getElem?_eq_some_iff.mp hd).1
    omega
  | x :: r,ws,e,h => by
    have hx : pl[ws.length]? = some x := by
      have := congrArg (fun l => l[0]?) e
      simpa using this.symm
    have hr : r = pl.drop (ws.length + 1) := by
      have := congrArg List.tail e
      simpa [List.tail_drop] using this
    by_cases hs : stepC pl x ws = 0
    · have e2 : lookR pl (x :: r) ws = lookR pl r (ws ++ [widthN x ws]) := by rw [lookR,if_pos hs]
      rw [e2] at h ⊢
      obtain ⟨k1,k2⟩ := lookR_stepK r (ws ++ [widthN x ws]) (by simpa using hr) h
      have k3 : (lookR pl r (ws ++ [widthN x ws])).1.take ws.length = ws := by
        have := congrArg (List.take ws.length) k1
        rw [List.take_take,List.take_left' rfl] at this
        simpa using this
      refine ⟨k3,fun n d hn hd => ?_⟩
      by_cases hc : n = ws.length
      · subst hc
        rw [hx] at hd;cases hd
        rw [k3];exact hs
      · exact k2 n d (by simp;omega) hd
    · exfalso
      rw [lookR,if_neg hs] at h
      exact hs h
theorem step_atK {pl : List Nd} (h : (lookN pl).2 = 0) {n : Nat} {d : Nd} (hd : pl[n]? = some d) : stepC pl d ((widN pl).take n) = 0 := by
  unfold widN
  unfold lookN at h ⊢
  split at h
  · cases h
  · rename_i hl
    rw [if_neg hl]
    split at h
    · rename_i h0
      rw [if_pos h0]
      exact (lookR_stepK pl [] rfl h0).2 n d (by simp) hd
    · exact absurd h ‹_›
theorem fault_at {pl : List Nd} (h : (lookN pl).2 = 0) {n : Nat} {d : Nd} (hd : pl[n]? = some d) : faultN d ((widN pl).take n) = 0 := by
  have hs := step_atK h hd
  unfold stepC at hs
  split at hs
  · cases hs
  · split at hs
    · cases hs
    · split at hs
      · cases hs
      · exact hs
theorem key_le {pl : List Nd} (hk : okN pl) (h : (lookN pl).2 = 0) {m : Int} (h0 : 0 ≤ m) {d : Nd} (hd : pl[m.toNat]? = some d) {a : Int} (ha : readsFrom d a = true) : 0 ≤ a ∧ a < m ∧ keyN pl m ≤ at0 (widN pl) a := by
  have hf := fault_at h hd
  obtain ⟨i1,i2,i3⟩ := in_at hk h h0 hd
  obtain ⟨g1,g2,g3,g4⟩ := look_good hk h
  have hml := (List.getElem?_eq_some_iff.mp hd).1
  have hnd : ndAt pl m = d := by unfold ndAt;simp [List.getD,hd]
  have tk : ∀ b : Int,0 ≤ b → b < m → at0 ((widN pl).take m.toNat) b = at0 (widN pl) b := fun b hb1 hb2 => at0_take (by omega)
  have wb : ∀ b : Int,0 ≤ b → b < m → 1 ≤ at0 (widN pl) b ∧ at0 (widN pl) b ≤ 4 := fun b hb1 hb2 => by
    have := g3 b.toNat (by omega)
    rwa [Int.toNat_of_nonneg hb1] at this
  unfold readsFrom readsN at ha
  by_cases o1 : d.op = 1
  · rw [if_pos o1] at ha;simp at ha
  · rw [if_neg o1] at ha
    have ia := i2 o1
    have wa := wb d.a ia.1 ia.2
    have ta := tk d.a ia.1 ia.2
    unfold keyN;rw [hnd]
    unfold faultN at hf
    rw [if_neg o1,ta] at hf
    by_cases o46 : d.op = 4 ∨ d.op = 6
    · rw [if_pos o46] at ha
      have ib := i3 o46
      have wbb := wb d.b ib.1 ib.2
      have tb := tk d.b ib.1 ib.2
      rw [tb] at hf
      have hab : a = d.a ∨ a = d.b := by simpa using ha
      refine ⟨by omega,by omega,?_⟩
      rcases o46 with o4 | o6
      · rw [if_neg (by omega),if_neg (by omega),if_pos o4] at hf
        have heq : at0 (widN pl) d.a = at0 (widN pl) d.b := by
          by_cases e : at0 (widN pl) d.a = at0 (widN pl) d.b
          · exact e
          · rw [if_neg e] at hf;cases hf
        rw [if_neg (by omega)]
        rcases hab with rfl | rfl <;> omega
      · rw [if_neg (by omega),if_neg (by omega),if_neg (by omega),if_pos o6] at hf
        have hi : inI d.col 1 (min (at0 (widN pl) d.a) (at0 (widN pl) d.b)) = true := by
          cases hi : inI d.col 1 (min (at0 (widN pl) d.a) (at0 (widN pl) d.b)) with
          | true => rfl
          | false => rw [hi] at hf;simp at hf
        simp only [inI,Bool.and_eq_true,decide_eq_true_eq] at hi
        rw [if_pos (.inr ⟨by omega,by omega⟩)]
        rcases hab with rfl | rfl <;> omega
    · rw [if_neg o46] at ha
      have haa : a = d.a := by simpa using ha
      subst haa
      refine ⟨by omega,by omega,?_⟩
      have n4 : ¬ d.op = 4 := fun e => o46 (.inl e)
      have n6 : ¬ d.op = 6 := fun e => o46 (.inr e)
      by_cases hop : 6 ≤ d.op ∧ d.op ≤ 10
      · rw [if_pos (.inr hop)]
        rw [if_neg (by omega),if_neg (by omega),if_neg n4,if_neg n6] at hf
        by_cases o7 : d.op = 7
        · rw [if_pos o7] at hf
          have hi : inI d.col 0 (min (at0 (widN pl) d.a) 3) = true := by
            cases hi : inI d.col 0 (min (at0 (widN pl) d.a) 3) with
            | true => rfl
            | false => rw [hi] at hf;simp at hf
          simp only [inI,Bool.and_eq_true,decide_eq_true_eq] at hi
          omega
        · rw [if_neg o7,if_pos (by omega)] at hf
          have hi : inI d.col 0 (IntKind.i64.wrap (at0 (widN pl) d.a - 1)) = true := by
            cases hi : inI d.col 0 (IntKind.i64.wrap (at0 (widN pl) d.a - 1)) with
            | true => rfl
            | false => rw [hi] at hf;simp at hf
          rw [wrap_id (by omega) (by omega)] at hi
          simp only [inI,Bool.and_eq_true,decide_eq_true_eq] at hi
          omega
      · rw [if_neg (by omega)];omega
theorem rdFrom_in {a : Int} {m : Int} : ∀ {l : List Nd} {i : Nat},m ∈ rdFrom a i l → ∃ (k : Nat) (d : Nd),m = ((i + k : Nat) : Int) ∧ l[k]? = some d ∧ readsFrom d a = true
  | [],i,h => by simp [rdFrom] at h
  | d :: r,i,h => by
    unfold rdFrom at h
    have step : m ∈ rdFrom a (i + 1) r → ∃ (k : Nat) (d' : Nd),m = ((i + k : Nat) : Int) ∧ (d :: r)[k]? = some d' ∧ readsFrom d' a = true := fun h => by
      obtain ⟨k,d',e,h1,h2⟩ := rdFrom_in h
      exact ⟨k + 1,d',by rw [e];congr 1;omega,by simpa using h1,h2⟩
    split at h
    · rename_i hr
      rcases List.mem_cons.1 h with rfl | h
      · exact ⟨0,d,rfl,rfl,hr⟩
      · exact step h
    · exact step h
theorem long_of {pl : List Nd} (hk : okN pl) (h : (lookN pl).2 = 0) {a m : Int} (hm : m ∈ rdFrom a 0 pl) {z : List Et} (hz : ∀ e ∈ z,(e.row.length : Int) = at0 (widN pl) a) : longE z (keyN pl m) = false ∧ 0 ≤ m ∧ m < pl.length := by
  obtain ⟨k,d,rfl,h1,h2⟩ := rdFrom_in hm
  rw [Nat.zero_add] at *
  have hlt := (List.getElem?_eq_some_iff.mp h1).1
  obtain ⟨k1,k2,k3⟩ := key_le hk h (m:=k) (by omega) (d:=d) (by simpa using h1) h2
  refine ⟨?_,by omega,by omega⟩
  simp only [longE,List.any_eq_false,decide_eq_true_eq]
  intro e he
  rw [hz e he];omega
theorem widF_len {z : List Et} {k : Int} (h : widF z k = 0) : ∀ e ∈ z,(e.row.length : Int) = k := by
  unfold widF at h
  split at h
  · split at h
    · rename_i h2
      intro e he
      have := (List.all_eq_true.1 h2) e he
      simpa using this
    · cases h
  · exact absurd h ‹_›
def framesP (m s ep : Int) : List (List Et) → List Fr
  | [] => []
  | p :: r => if p = [] then framesP m s ep r else ⟨1,m,s,ep,p,[]⟩ :: framesP m s ep r
def goesP : Nat → List (List Et) → List Int
  | _,[] => []
  | k,p :: r => if p = [] then goesP (k + 1) r else (k : Int) :: goesP (k + 1) r
theorem framesP_0 {m s ep : Int} {r : List (List Et)} : framesP m s ep ([] :: r) = framesP m s ep r := by rw [framesP,if_pos rfl]
theorem framesP_1 {m s ep : Int} {p : List Et} {r : List (List Et)} (h : p ≠ []) : framesP m s ep (p :: r) = ⟨1,m,s,ep,p,[]⟩ :: framesP m s ep r := by rw [framesP,if_neg h]
theorem goesP_0 {k : Nat} {r : List (List Et)} : goesP k ([] :: r) = goesP (k + 1) r := by rw [goesP,if_pos rfl]
theorem goesP_1 {k : Nat} {p : List Et} {r : List (List Et)} (h : p ≠ []) : goesP k (p :: r) = (k : Int) :: goesP (k + 1) r := by rw [goesP,if_neg h]
theorem framesP_len (m s ep : Int) : ∀ l : List (List Et),(framesP m s ep l).length ≤ l.length
  | [] => by simp [framesP]
  | p :: r => by
    have := framesP_len m s ep r
    unfold framesP;split <;> simp <;> omega
theorem goesP_len : ∀ (k : Nat) (l : List (List Et)),(goesP k l).length ≤ l.length
  | _,[] => by simp [goesP]
  | k,p :: r => by
    have := goesP_len (k + 1) r
    unfold goesP;split <;> simp <;> omega
def goneP (p : List Et) : V := if p = [] then .lst true 2 [] else .und
def ovP (k : Nat) (l : List (List Et)) : List V := (l.take k).map goneP ++ etss true (l.drop k)
@[simp] theorem ovP_0 (l : List (List Et)) : ovP 0 l = etss true l := by simp [ovP]
@[simp] theorem ovP_len (k : Nat) (l : List (List Et)) : (ovP k l).length = l.length := by simp [ovP];omega
theorem ovP_get {k : Nat} {l : List (List Et)} {p : List Et} (h : l[k]? = some p) : (ovP k l)[k]? = some (.lst true 2 (ets true p)) := by
  have hlt := (List.getElem?_eq_some_iff.1 h).1
  unfold ovP
  rw [List.getElem?_append_right (by simp;omega)]
  simp only [List.length_map,List.length_take,Nat.min_eq_left (Nat.le_of_lt hlt),Nat.sub_self]
  have : (l.drop k)[0]? = some p := by simpa using h
  exact etss_get (t:=true) this
theorem ovP_next {k : Nat} {l : List (List Et)} {p : List Et} (h : l[k]? = some p) : ovP (k + 1) l = (ovP k l).set k (goneP p) := by
  have hlt := (List.getElem?_eq_some_iff.1 h).1
  unfold ovP
  have e1 : l.take (k + 1) = l.take k ++ [p] := by rw [List.take_add_one,h];rfl
  have e2 : l.drop k = p :: l.drop (k + 1) := by
    have := List.drop_eq_getElem_cons hlt
    rw [this];congr 1
    have := List.getElem?_eq_getElem hlt
    rw [h] at this;exact (Option.some.inj this).symm
  rw [e1,e2,List.set_append_right _ _ (by simp;omega)]
  simp [Nat.min_eq_left (Nat.le_of_lt hlt)]
theorem ovP_same {k : Nat} {l : List (List Et)} (h : l[k]? = some []) : ovP (k + 1) l = ovP k l := by
  rw [ovP_next h]
  apply List.ext_getElem?
  intro n
  by_cases e : n = k
  · subst e
    have h2 := ovP_get h
    have hlt : n < (ovP n l).length := (List.getElem?_eq_some_iff.1 h2).1
    rw [List.getElem?_set_self hlt,h2];rfl
  · rw [List.getElem?_set_ne (Ne.symm e)]
theorem ovP_cut {k : Nat} {l : List (List Et)} {p : List Et} (h : l[k]? = some p) (hp : p ≠ []) : (ovP k l).set k .und = ovP (k + 1) l := by
  rw [ovP_next h];simp [goneP,hp]
theorem frs_snoc0 (l : List Fr) (a b c d : Int) (e : List Et) : frs true l ++ [V.agg [.int .i64 a,.int .i64 b,.int .i64 c,.int .i64 d,.lst true 2 (ets true e),.lst true 3 []]] = frs true (l ++ [⟨a,b,c,d,e,[]⟩]) := frs_snocT2 l a b c d e []
theorem e_send1 (pl : List Nd) (a m sf : Int) (r : List Int) (hp : pl.length < 2000000) (hk : okN pl) (hc : routeC pl a m sf = 0) (hr : r.length < 2000000) (hl : keyN pl a ≤ r.length) : oc.call 109 [.lst false 0 (ints r),.vptr (.lst false 0 (nds false 0 pl)),.vptr (.lst false 0 (ints (widN pl))),.vptr (.int .i64 a),.vptr (.int .i64 m),.vptr (.int .i64 sf)] = some (.int .i64 (dstN pl a m sf r),[]) := by
 refine fun_s rfl cd109 rfl rfl rfl (by simp;rfl) (by simp;rfl) ?_
 refine wa_ (wc_region (w_ (a_ (h:=wo_nil (e_ (h:=aft_normal (wa_ (wc_region (w_ (l_ (h:=w_ (l_ (h:=w_ (l_ (h:=w_ (l_ (h:=w_ (l_ (h:=?_)))))))))))))))))))
 refine w_ (m_ (h:=w_ (ca (hc:=e_goI pl a m sf r hp hk hc hr hl) (h:=w_ (a_ (h:=wo_nil (e_ (h:=aft_normal (wc_ret (?_))))))))))
 all_goals (refine fin_ (hr:=(res_tmp rfl res_nil)) (h:=?_);(focus (first | (simp_all;done) | (simp_all <;> omega) | (simp_all <;> split <;> simp_all <;> omega))))
theorem l_partX (pl : List Nd) (a sf : Int) (z : List Et) (m : Nat) (hp : pl.length < 2000000) (hk : okN pl) (hc : routeC pl a m sf = 0) (hz : w_Ets z < 2000000) (hm : 0 < m) (hm2 : m < 2000000) (h1 : longE z (keyN pl a) = false) : ∀ i : Nat,(i ≤ z.length) → ∀ s,normE 3 (some [2,7,13,14,15]) s = ⟨[(2,.clo 109 [.vptr (.lst false 0 (nds false 0 pl)),.vptr (.lst false 0 (ints (widN pl))),.vptr (.int .i64 a),.vptr (.int .i64 m),.vptr (.int .i64 sf)]),(7,.ref 3 0 m),(13,.lst false 0 (ets false z)),(14,.int .i64 z.length),(15,.int .i64 i)],[(3,⟨false,false,1,etss true (partsN (rtf pl a m sf) m (z.take i)),0⟩)],4⟩ →
 oc.loop 108 3 s = some (.exit 0,⟨[(7,.ref 3 0 m)],[(3,⟨false,false,1,etss true (partsN (rtf pl a m sf) m z),0⟩)],4⟩) := by
 refine loop_ind (σ:=Nat) (fun i => z.length - i) _ (fun i => ⟨[(2,.clo 109 [.vptr (.lst false 0 (nds false 0 pl)),.vptr (.lst false 0 (ints (widN pl))),.vptr (.int .i64 a),.vptr (.int .i64 m),.vptr (.int .i64 sf)]),(7,.ref 3 0 m),(13,.lst false 0 (ets false z)),(14,.int .i64 z.length),(15,.int .i64 i)],[(3,⟨false,false,1,etss true (partsN (rtf pl a m sf) m (z.take i)),0⟩)],4⟩) _ ?_
 intro i hi ih s hs
 refine loop_s cd108 rfl rfl hs ?_
 have hzl := w_Ets_len (l:=z)
 refine wa_ (wc_region (w_ (b_ (h:=wo_nil (e_ (h:=aft_normal (wa_ (?_))))))))
 refine c_ (h1:=?_) (h2:=?_)
 rotate_right 1
 focus
  intro c1
  first
  | exact dn c1
  | (
   have d1 := c1;try simp at d1
   refine wc_exit (?_)
   )
 rotate_right 1
 focus
  intro c1
  first
  | exact dn c1
  | (
   have d1 := c1;try simp at d1
   have hw := wrap_succ (i:=i) (by omega);obtain ⟨c,hx,e1,g1⟩ := ets_cut (t:=false) (l:=z) (i:=i) (by omega);have hcm := List.mem_of_getElem? hx;have hcr := row_in hz hcm;have hlong := longE_row h1 hcm;have hsh := dstN_in (r:=c.row) hc;obtain ⟨q,hq,hql,hqs⟩ := partsN_snoc (f:=rtf pl a m sf) (m:=m) hx hsh.1 hsh.2;have g2 : (etss true (partsN (rtf pl a m sf) m (z.take i)))[(dstN pl a m sf c.row).toNat]? = some (.lst true 2 (ets true q)) := etss_get (t:=true) hq;change (partsN (rtf pl a m sf) m (z.take i)).set (dstN pl a m sf c.row).toNat (q ++ [c]) = _ at hqs;have hqt : List.take (q.length + 1) (q ++ [({ row := c.row,w := c.w } : Et)]) = q ++ [c] := List.take_of_length_le (by simp)
   refine wc_skip (?_)
   )
 all_goals first
 | refine aft_exit ?_
 | (
  refine aft_normal ?_
  refine wa_ (wc_block (wa_ (wc_region (w_ (x_ (h:=w_ (l_ (h:=w_ (al (h:=w0 (s_ (h:=wo_nil (e_ (h:=aft_normal (wa_ (wc_region (?_)))))))))))))))))
  refine w_ (m_ (h:=w_ (f_ (h:=w_ (l_ (h:=w_ (ca (hc:=e_send1 pl a m sf c.row hp hk hc hcr hlong) (h:=w_ (a_ (h:=wo_nil (e_ (h:=aft_normal (wc_draw (y_ (m_ (h:=ax_ (h:=y_ (m_ (h:=ax_ (h:=y_ (m_ (h:=ax_ (h:=y_ (m_ (h:=ax_ (h:=?_))))))))))))))))))))))))))
  refine y_ (x_ (h:=ax_ (h:=y_ (l_ (h:=ax_ (h:=y_ (f_ (h:=ax_ (h:=y_ (l_ (h:=ax_ (h:=y_ (ca (hc:=e_cloneI c.row hcr) (h:=ax_ (h:=y_ (f_ (h:=ax_ (h:=y_ (l_ (h:=ax_ (h:=y_ (bd (h:=ax_ (h:=y_ (bs (h:=ax_ (h:=y_ (?_))))))))))))))))))))))))))))
  refine apP (h:=?_)
  refine ax_ (h:=y_ (x_ (h:=ax_ (h:=y0 (s_ (h:=ax_ (h:=wo_nil (ed (h:=blk_normal (aft_normal (wc_region (w_ (b_ (h:=w_ (m_ (h:=wo_nil (e_ (h:=?_))))))))))))))))))
  )
 all_goals first
 | (refine (ih (i + 1) (by omega) ?_ _ ?_).trans ?_;(focus (first | omega | (simp;done) | (simp;omega)));(focus (simp [normE,hw,hqt,hqs];done));(focus (rfl)))
 | (apply end_leaf (ex:=(Ext.exit 0)) 3 (some [7]);(focus (simp [normE];rfl));(focus (rw [List.take_of_length_le (by omega)])))
theorem e_partX (pl : List Nd) (a sf : Int) (z : List Et) (m : Nat) (hp : pl.length < 2000000) (hk : okN pl) (hc : routeC pl a m sf = 0) (hz : w_Ets z < 2000000) (hm : 0 < m) (hm2 : m < 2000000) (h1 : longE z (keyN pl a) = false) : oc.call 108 [.int .i64 m,.lst false 0 (ets false z),.clo 109 [.vptr (.lst false 0 (nds false 0 pl)),.vptr (.lst false 0 (ints (widN pl))),.vptr (.int .i64 a),.vptr (.int .i64 m),.vptr (.int .i64 sf)]] = some (.lst true 1 (etss true (partsN (rtf pl a m sf) m z)),[]) := by
 refine fun_s rfl cd108 rfl rfl rfl (by simp;rfl) (by simp;rfl) ?_
 have hzl := w_Ets_len (l:=z)
 refine wa_ (wc_region (w_ (aN (h:=wo_nil (e_ (h:=aft_normal (wa_ (wc_region (w_ (m_ (h:=w_ (mk (h:=w_ (a_ (h:=wo_nil (e_ (h:=aft_normal (?_))))))))))))))))))
 refine wa_ (wa_ (wc_region (w_ (m_ (h:=w_ (le (h:=w_ (m_ (h:=wo_nil (e_ (h:=aft_normal (wc_block (?_)))))))))))))
 refine wc_loop (l_partX pl a sf z m hp hk hc hz hm hm2 h1 0 (by omega) _ (by simp [normE,partsN_nil,etss_zero])) ?_
 refine blk_exit (aft_normal (wa_ (wc_region (w_ (m_ (h:=w_ (a_ (h:=wo_nil (e_ (h:=aft_normal (wc_ret (?_))))))))))))
 all_goals (refine fin_ (hr:=(res_tmp rfl res_nil)) (h:=?_);(focus (first | (simp_all;done) | (simp_all <;> omega) | (simp_all <;> split <;> simp_all <;> omega))))
theorem l_sp (pl : List Nd) (z : List Et) (P : List (List Et)) (W i j : Nat) (rds rs : List Int) (m sd node sf ep : Int) (hW : P.length = W) (hw3 : W ≤ 3) (hPl : ∀ p ∈ P,p.length < 2000000) : ∀ x : Nat × (List Fr) × (List Int),(x.1 ≤ W ∧ x.2.1.length + W < 1000 + x.1 ∧ x.2.2.length + W < 1000 + x.1) → ∀ s,normE 7 (some [2,5,6,7,8,10,11,16,17,19,20,28,29,30,38,39,40,51,52,53]) s = ⟨[(2,.int .i64 node),(5,.lst false 0 (ets false z)),(6,.int .i64 ep),(7,.ptr 7 0 []),(8,.ptr 8 0 []),(10,.ptr 9 0 []),(11,.ptr 10 0 []),(16,.ref 11 0 x.2.1.length),(17,.ref 12 0 x.2.2.length),(19,.ptr 13 0 []),(20,.int .i64 sd),(28,.ref 14 0 rds.length),(29,.int .i64 rds.length),(30,.int .i64 i),(38,.ref 15 0 rs.length),(39,.int .i64 rs.length),(40,.int .i64 j),(51,.ref 16 0 W),(52,.int .i64 W),(53,.int .i64 x.1)],[(7,⟨true,false,1,[.lst false 0 (nds false 0 pl)],0⟩),(8,⟨true,false,1,[.lst false 0 (ints (widN pl))],0⟩),(9,⟨true,false,1,[.int .i64 W],0⟩),(10,⟨true,false,1,[.int .i64 sf],0⟩),(11,⟨false,false,6,frs true x.2.1,0⟩),(12,⟨false,false,1,ints x.2.2,0⟩),(13,⟨true,false,1,[.int .i64 m],0⟩),(14,⟨false,false,1,ints rds,0⟩),(15,⟨false,false,1,ints rs,0⟩),(16,⟨false,false,1,ovP x.1 P,0⟩)],17⟩ →
 oc.loop 62 10 s = some (.exit 4,⟨[(2,.int .i64 node),(5,.lst false 0 (ets false z)),(6,.int .i64 ep),(7,.ptr 7 0 []),(8,.ptr 8 0 []),(10,.ptr 9 0 []),(11,.ptr 10 0 []),(16,.ref 11 0 (x.2.1 ++ framesP m sd ep (P.drop x.1)).length),(17,.ref 12 0 (x.2.2 ++ goesP x.1 (P.drop x.1)).length),(19,.ptr 13 0 []),(28,.ref 14 0 rds.length),(29,.int .i64 rds.length),(30,.int .i64 i),(38,.ref 15 0 rs.length),(39,.int .i64 rs.length),(40,.int .i64 j)],[(7,⟨true,false,1,[.lst false 0 (nds false 0 pl)],0⟩),(8,⟨true,false,1,[.lst false 0 (ints (widN pl))],0⟩),(9,⟨true,false,1,[.int .i64 W],0⟩),(10,⟨true,false,1,[.int .i64 sf],0⟩),(11,⟨false,false,6,frs true (x.2.1 ++ framesP m sd ep (P.drop x.1)),0⟩),(12,⟨false,false,1,ints (x.2.2 ++ goesP x.1 (P.drop x.1)),0⟩),(13,⟨true,false,1,[.int .i64 m],0⟩),(14,⟨false,false,1,ints rds,0⟩),(15,⟨false,false,1,ints rs,0⟩)],16⟩) := by
 refine loop_ind (σ:=Nat × (List Fr) × (List Int)) (fun x => W - x.1) _ (fun x => ⟨[(2,.int .i64 node),(5,.lst false 0 (ets false z)),(6,.int .i64 ep),(7,.ptr 7 0 []),(8,.ptr 8 0 []),(10,.ptr 9 0 []),(11,.ptr 10 0 []),(16,.ref 11 0 x.2.1.length),(17,.ref 12 0 x.2.2.length),(19,.ptr 13 0 []),(20,.int .i64 sd),(28,.ref 14 0 rds.length),(29,.int .i64 rds.length),(30,.int .i64 i),(38,.ref 15 0 rs.length),(39,.int .i64 rs.length),(40,.int .i64 j),(51,.ref 16 0 W),(52,.int .i64 W),(53,.int .i64 x.1)],[(7,⟨true,false,1,[.lst false 0 (nds false 0 pl)],0⟩),(8,⟨true,false,1,[.lst false 0 (ints (widN pl))],0⟩),(9,⟨true,false,1,[.int .i64 W],0⟩),(10,⟨true,false,1,[.int .i64 sf],0⟩),(11,⟨false,false,6,frs true x.2.1,0⟩),(12,⟨false,false,1,ints x.2.2,0⟩),(13,⟨true,false,1,[.int .i64 m],0⟩),(14,⟨false,false,1,ints rds,0⟩),(15,⟨false,false,1,ints rs,0⟩),(16,⟨false,false,1,ovP x.1 P,0⟩)],17⟩) _ ?_
 rintro ⟨k,L,G⟩ hi ih s hs
 simp only at hi
 refine loop_s cd62 rfl rfl hs ?_
 obtain ⟨hi1,hi2,hi3⟩ := hi
 refine wa_ (wc_region (w_ (b_ (h:=wo_nil (e_ (h:=aft_normal (wa_ (?_))))))))
 refine c_ (h1:=?_) (h2:=?_)
 rotate_right 1
 focus
  intro c1
  first
  | exact dn c1
  | (
   have d1 := c1;try simp at d1
   refine wc_exit (?_)
   )
 rotate_right 1
 focus
  intro c1
  first
  | exact dn c1
  | (
   have d1 := c1;try simp at d1
   have hw := wrap_succ (i:=k) (by omega);obtain ⟨p,hx,e1,_⟩ := etss_cut (t:=true) (l:=P) (i:=k) (by omega);have g1 := ovP_get hx;have hpl := hPl p (List.mem_of_getElem? hx)
   refine wc_skip (?_)
   )
 all_goals first
 | refine aft_exit ?_
 | (
  refine aft_normal ?_
  refine wa_ (wc_block (wa_ (wc_region (w_ (m_ (h:=w_ (x_ (h:=w_ (l_ (h:=w_ (a_ (h:=w_ (a_ (h:=wo_nil (e_ (h:=aft_normal (wa_ (?_))))))))))))))))))
  refine wc_region (w_ (m_ (h:=w_ (le (h:=w_ (b_ (h:=wo_nil (e_ (h:=aft_normal (?_))))))))))
  refine c_ (h1:=?_) (h2:=?_)
  rotate_right 1
  focus
   intro c2
   first
   | exact dn c2
   | (
    have d2 := c2;try simp at d2
    have hpe : p = [] := (by cases p with | nil => rfl | cons y r => simp at c2);subst hpe;have hsame := ovP_same hx
    refine wc_skip (?_)
    )
  rotate_right 1
  focus
   intro c2
   first
   | exact dn c2
   | (
    have d2 := c2;try simp at d2
    have hpn : p ≠ [] := (by intro e;subst e;simp at c2);have hcut := ovP_cut hx hpn
    refine wa_ (wc_region (w_ (m_ (h:=w_ (l_ (h:=w_ (m_ (h:=w_ (m_ (h:=w_ (m_ (h:=w_ (bd (h:=w_ (?_)))))))))))))))
    refine bs (hf:=by (simp [g1];rfl)) (h:=?_)
    refine w_ (ap (h:=w_ (a_ (h:=wo_nil (e_ (h:=aft_normal (wc_region (w_ (m_ (h:=w_ (m_ (h:=w_ (bs (h:=w_ (ap (h:=w_ (a_ (h:=wo_nil (e_ (h:=?_))))))))))))))))))))
    )
  all_goals refine blk_normal ?_
  all_goals first
  | (
   refine aft_normal ?_
   refine wc_region (w_ (b_ (h:=w_ (m_ (h:=wo_nil (e_ (h:=?_)))))))
   )
  )
 all_goals first
 | (refine (ih ((k + 1,L ++ [⟨1,m,sd,ep,p,[]⟩],G ++ [(k : Int)])) (⟨by simp only;omega,by simp;omega,by simp;omega⟩) ?_ _ ?_).trans ?_;(focus (first | omega | (simp;done) | (simp;omega)));(focus (simp [normE,hw,hcut,frs_snoc0];done));(focus (rw [e1,framesP_1 hpn,goesP_1 hpn];simp)))
 | (refine (ih ((k + 1,L,G)) (⟨by simp only;omega,by simp only;omega,by simp only;omega⟩) ?_ _ ?_).trans ?_;(focus (first | omega | (simp;done) | (simp;omega)));(focus (simp [normE,hw,hsame];done));(focus (rw [e1,framesP_0,goesP_0])))
 | (apply end_leaf (ex:=(Ext.exit 4)) 7 (some [2,5,6,7,8,10,11,16,17,19,28,29,30,38,39,40]);(focus (simp [normE];rfl));(focus (obtain rfl : k = P.length := (by omega);simp [framesP,goesP])))
def prtN (pl : List Nd) (W : Nat) (sf : Int) (z : List Et) (m : Int) : List (List Et) := partsN (rtf pl m W sf) W z
def sidesN (pl : List Nd) (node : Int) (W : Nat) (sf ep : Int) (z : List Et) (m : Int) : Nat → List Int → List Fr × List Int
  | _,[] => ([],[])
  | s,x :: r => if x = node then (framesP m s ep (prtN pl W sf z m) ++ (sidesN pl node W sf ep z m (s + 1) r).1,goesP 0 (prtN pl W sf z m) ++ (sidesN pl node W sf ep z m (s + 1) r).2) else sidesN pl node W sf ep z m (s + 1) r
theorem sidesN_1 {pl : List Nd} {node : Int} {W : Nat} {sf ep : Int} {z : List Et} {m : Int} {s : Nat} {x : Int} {r : List Int} (h : x = node) : sidesN pl node W sf ep z m s (x :: r) = (framesP m s ep (prtN pl W sf z m) ++ (sidesN pl node W sf ep z m (s + 1) r).1,goesP 0 (prtN pl W sf z m) ++ (sidesN pl node W sf ep z m (s + 1) r).2) := by rw [sidesN,if_pos h]
theorem sidesN_0 {pl : List Nd} {node : Int} {W : Nat} {sf ep : Int} {z : List Et} {m : Int} {s : Nat} {x : Int} {r : List Int} (h : ¬ x = node) : sidesN pl node W sf ep z m s (x :: r) = sidesN pl node W sf ep z m (s + 1) r := by rw [sidesN,if_neg h]
theorem prt_len {pl : List Nd} {W : Nat} {sf : Int} {z : List Et} {m : Int} : (prtN pl W sf z m).length = W := partsN_len
theorem sidesN_len {pl : List Nd} {node : Int} {W : Nat} {sf ep : Int} {z : List Et} {m : Int} : ∀ {r : List Int} {s : Nat},(sidesN pl node W sf ep z m s r).1.length ≤ W * r.length ∧ (sidesN pl node W sf ep z m s r).2.length ≤ W * r.length
  | [],s => by simp [sidesN]
  | x :: r,s => by
    have h1 := framesP_len m s ep (prtN pl W sf z m)
    have h2 := goesP_len 0 (prtN pl W sf z m)
    rw [prt_len] at h1 h2
    obtain ⟨h3,h4⟩ := sidesN_len (pl:=pl) (node:=node) (W:=W) (sf:=sf) (ep:=ep) (z:=z) (m:=m) (r:=r) (s:=s + 1)
    rw [List.length_cons,Nat.mul_succ]
    unfold sidesN;split
    · simp only [List.length_append];omega
    · omega
theorem l_sd (pl : List Nd) (z : List Et) (W i : Nat) (rds rs : List Int) (m node sf ep : Int) (hp : pl.length < 2000000) (hk : okN pl) (hc : routeC pl m W sf = 0) (hz : w_Ets z < 2000000) (h1 : longE z (keyN pl m) = false) (hm : 0 < W) (hw3 : W ≤ 3) (hrs : rs.length ≤ 2) : ∀ x : Nat × (List Fr) × (List Int),(x.1 ≤ rs.length ∧ x.2.1.length + 10 * rs.length < 500 + 10 * x.1 ∧ x.2.2.length + 10 * rs.length < 500 + 10 * x.1) → ∀ s,normE 7 (some [2,5,6,7,8,10,11,16,17,19,28,29,30,38,39,40]) s = ⟨[(2,.int .i64 node),(5,.lst false 0 (ets false z)),(6,.int .i64 ep),(7,.ptr 7 0 []),(8,.ptr 8 0 []),(10,.ptr 9 0 []),(11,.ptr 10 0 []),(16,.ref 11 0 x.2.1.length),(17,.ref 12 0 x.2.2.length),(19,.ptr 13 0 []),(28,.ref 14 0 rds.length),(29,.int .i64 rds.length),(30,.int .i64 i),(38,.ref 15 0 rs.length),(39,.int .i64 rs.length),(40,.int .i64 x.1)],[(7,⟨true,false,1,[.lst false 0 (nds false 0 pl)],0⟩),(8,⟨true,false,1,[.lst false 0 (ints (widN pl))],0⟩),(9,⟨true,false,1,[.int .i64 W],0⟩),(10,⟨true,false,1,[.int .i64 sf],0⟩),(11,⟨false,false,6,frs true x.2.1,0⟩),(12,⟨false,false,1,ints x.2.2,0⟩),(13,⟨true,false,1,[.int .i64 m],0⟩),(14,⟨false,false,1,ints rds,0⟩),(15,⟨false,false,1,ints rs,0⟩)],16⟩ →
 oc.loop 62 6 s = some (.exit 2,⟨[(2,.int .i64 node),(5,.lst false 0 (ets false z)),(6,.int .i64 ep),(7,.ptr 7 0 []),(8,.ptr 8 0 []),(10,.ptr 9 0 []),(11,.ptr 10 0 []),(16,.ref 11 0 (x.2.1 ++ (sidesN pl node W sf ep z m x.1 (rs.drop x.1)).1).length),(17,.ref 12 0 (x.2.2 ++ (sidesN pl node W sf ep z m x.1 (rs.drop x.1)).2).length),(28,.ref 13 0 rds.length),(29,.int .i64 rds.length),(30,.int .i64 i)],[(7,⟨true,false,1,[.lst false 0 (nds false 0 pl)],0⟩),(8,⟨true,false,1,[.lst false 0 (ints (widN pl))],0⟩),(9,⟨true,false,1,[.int .i64 W],0⟩),(10,⟨true,false,1,[.int .i64 sf],0⟩),(11,⟨false,false,6,frs true (x.2.1 ++ (sidesN pl node W sf ep z m x.1 (rs.drop x.1)).1),0⟩),(12,⟨false,false,1,ints (x.2.2 ++ (sidesN pl node W sf ep z m x.1 (rs.drop x.1)).2),0⟩),(13,⟨false,false,1,ints rds,0⟩)],14⟩) := by
 refine loop_ind (σ:=Nat × (List Fr) × (List Int)) (fun x => rs.length - x.1) _ (fun x => ⟨[(2,.int .i64 node),(5,.lst false 0 (ets false z)),(6,.int .i64 ep),(7,.ptr 7 0 []),(8,.ptr 8 0 []),(10,.ptr 9 0 []),(11,.ptr 10 0 []),(16,.ref 11 0 x.2.1.length),(17,.ref 12 0 x.2.2.length),(19,.ptr 13 0 []),(28,.ref 14 0 rds.length),(29,.int .i64 rds.length),(30,.int .i64 i),(38,.ref 15 0 rs.length),(39,.int .i64 rs.length),(40,.int .i64 x.1)],[(7,⟨true,false,1,[.lst false 0 (nds false 0 pl)],0⟩),(8,⟨true,false,1,[.lst false 0 (ints (widN pl))],0⟩),(9,⟨true,false,1,[.int .i64 W],0⟩),(10,⟨true,false,1,[.int .i64 sf],0⟩),(11,⟨false,false,6,frs true x.2.1,0⟩),(12,⟨false,false,1,ints x.2.2,0⟩),(13,⟨true,false,1,[.int .i64 m],0⟩),(14,⟨false,false,1,ints rds,0⟩),(15,⟨false,false,1,ints rs,0⟩)],16⟩) _ ?_
 rintro ⟨j,L,G⟩ hi ih s hs
 simp only at hi
 refine loop_s cd62 rfl rfl hs ?_
 obtain ⟨hi1,hi2,hi3⟩ := hi
 have hPl : ∀ p ∈ prtN pl W sf z m,p.length < 2000000 := fun p hp => by have h2 := w_Ets_sub (partsN_mem hp);have h3 := w_Ets_len (l:=p);omega
 have hf := framesP_len m j ep (prtN pl W sf z m)
 have hg := goesP_len 0 (prtN pl W sf z m)
 have hpl := prt_len (pl:=pl) (W:=W) (sf:=sf) (z:=z) (m:=m)
 rw [hpl] at hf hg
 refine wa_ (wc_region (w_ (b_ (h:=wo_nil (e_ (h:=aft_normal (wa_ (?_))))))))
 refine c_ (h1:=?_) (h2:=?_)
 rotate_right 1
 focus
  intro c1
  first
  | exact dn c1
  | (
   have d1 := c1;try simp at d1
   refine wc_exit (?_)
   )
 rotate_right 1
 focus
  intro c1
  first
  | exact dn c1
  | (
   have d1 := c1;try simp at d1
   have hw := wrap_succ (i:=j) (by omega);obtain ⟨x,hx,e1,g1⟩ := ints_cut (l:=rs) (i:=j) (by omega)
   refine wc_skip (?_)
   )
 all_goals first
 | refine aft_exit ?_
 | (
  refine aft_normal ?_
  refine wa_ (wc_block (wa_ (wc_region (w_ (m_ (h:=w_ (x_ (h:=w_ (l_ (h:=w_ (a_ (h:=w_ (a_ (h:=wo_nil (e_ (h:=aft_normal (wa_ (?_))))))))))))))))))
  refine wa_ (wc_region (w_ (m_ (h:=w_ (m_ (h:=w_ (bE (h:=wo_nil (e_ (h:=aft_normal (?_)))))))))))
  refine c_ (h1:=?_) (h2:=?_)
  rotate_right 1
  focus
   intro c2
   first
   | exact dn c2
   | (
    have d2 := c2;try simp at d2
    refine wc_skip (?_)
    )
  rotate_right 1
  focus
   intro c2
   first
   | exact dn c2
   | (
    have d2 := c2;try simp at d2
    refine wc_exit (?_)
    )
  all_goals first
  | refine aft_exit ?_
  | (
   refine aft_normal ?_
   refine wa_ (wc_region (w_ (l_ (h:=w_ (m_ (h:=w_ (mf (h:=w_ (ca (hc:=e_partX pl m sf z W hp hk hc hz hm (by omega) h1) (h:=w_ (le (h:=w_ (m_ (h:=wo_nil (e_ (h:=aft_normal (wc_block (?_))))))))))))))))))
   refine wc_loop (l_sp pl z (prtN pl W sf z m) W i j rds rs m j node sf ep hpl hw3 hPl (0,L,G) ⟨by omega,by simp only;omega,by simp only;omega⟩ _ (by simp [normE,prtN])) ?_
   refine blk_exit (?_)
   )
  all_goals first | refine blk_normal ?_ | refine blk_exit ?_
  all_goals first
  | (
   refine aft_normal ?_
   refine wc_region (w_ (b_ (h:=w_ (m_ (h:=wo_nil (e_ (h:=?_)))))))
   )
  )
 all_goals first
 | (refine (ih ((j + 1,L ++ framesP m j ep (prtN pl W sf z m),G ++ goesP 0 (prtN pl W sf z m))) (⟨by simp only;omega,by simp;omega,by simp;omega⟩) ?_ _ ?_).trans ?_;(focus (first | omega | (simp;done) | (simp;omega)));(focus (simp [normE,hw];done));(focus (rw [e1,sidesN_1 (by simpa using d2)];simp)))
 | (refine (ih ((j + 1,L,G)) (⟨by simp only;omega,by simp only;omega,by simp only;omega⟩) ?_ _ ?_).trans ?_;(focus (first | omega | (simp;done) | (simp;omega)));(focus (simp [normE,hw];done));(focus (rw [e1,sidesN_0 (by simpa using d2)])))
 | (apply end_leaf (ex:=(Ext.exit 2)) 7 (some [2,5,6,7,8,10,11,16,17,28,29,30]);(focus (simp [normE];rfl));(focus (obtain rfl : j = rs.length := (by omega);simp [sidesN])))
def sendsR (pl : List Nd) (node : Int) (W : Nat) (sf ep : Int) (z : List Et) : List Int → List Fr × List Int
  | [] => ([],[])
  | m :: r => ((sidesN pl node W sf ep z m 0 (readsN (ndAt pl m))).1 ++ (sendsR pl node W sf ep z r).1,(sidesN pl node W sf ep z m 0 (readsN (ndAt pl m))).2 ++ (sendsR pl node W sf ep z r).2)
theorem readsN_len (d : Nd) : (readsN d).length ≤ 2 := by unfold readsN;split <;> (try split) <;> simp
theorem sendsR_len {pl : List Nd} {node : Int} {W : Nat} {sf ep : Int} {z : List Et} (hW : W ≤ 3) : ∀ {r : List Int},(sendsR pl node W sf ep z r).1.length ≤ 6 * r.length ∧ (sendsR pl node W sf ep z r).2.length ≤ 6 * r.length
  | [] => by simp [sendsR]
  | m :: r => by
    obtain ⟨h1,h2⟩ := sidesN_len (pl:=pl) (node:=node) (W:=W) (sf:=sf) (ep:=ep) (z:=z) (m:=m) (r:=readsN (ndAt pl m)) (s:=0)
    have h3 := readsN_len (ndAt pl m)
    have h4 : W * (readsN (ndAt pl m)).length ≤ 3 * 2 := Nat.mul_le_mul hW h3
    obtain ⟨h5,h6⟩ := sendsR_len (pl:=pl) (node:=node) (sf:=sf) (ep:=ep) (z:=z) hW (r:=r)
    simp only [sendsR,List.length_append,List.length_cons]
    omega
theorem l_rd (pl : List Nd) (z : List Et) (W : Nat) (rds : List Int) (node sf ep : Int) (hp : pl.length < 2000000) (hk : okN pl) (hn : (lookN pl).2 = 0) (hz : w_Ets z < 2000000) (hr : ∀ m ∈ rds,longE z (keyN pl m) = false ∧ 0 ≤ m ∧ m < pl.length) (hm : 0 < W) (hw3 : W ≤ 3) (hs : 0 ≤ sf ∧ sf < W) (hrl : rds.length ≤ 8) : ∀ x : Nat × (List Fr) × (List Int),(x.1 ≤ rds.length ∧ x.2.1.length + 10 * rds.length < 200 + 10 * x.1 ∧ x.2.2.length + 10 * rds.length < 200 + 10 * x.1) → ∀ s,normE 7 (some [2,5,6,7,8,10,11,16,17,28,29,30]) s = ⟨[(2,.int .i64 node),(5,.lst false 0 (ets false z)),(6,.int .i64 ep),(7,.ptr 7 0 []),(8,.ptr 8 0 []),(10,.ptr 9 0 []),(11,.ptr 10 0 []),(16,.ref 11 0 x.2.1.length),(17,.ref 12 0 x.2.2.length),(28,.ref 13 0 rds.length),(29,.int .i64 rds.length),(30,.int .i64 x.1)],[(7,⟨true,false,1,[.lst false 0 (nds false 0 pl)],0⟩),(8,⟨true,false,1,[.lst false 0 (ints (widN pl))],0⟩),(9,⟨true,false,1,[.int .i64 W],0⟩),(10,⟨true,false,1,[.int .i64 sf],0⟩),(11,⟨false,false,6,frs true x.2.1,0⟩),(12,⟨false,false,1,ints x.2.2,0⟩),(13,⟨false,false,1,ints rds,0⟩)],14⟩ →
 oc.loop 62 3 s = some (.exit 0,⟨[(16,.ref 7 0 (x.2.1 ++ (sendsR pl node W sf ep z (rds.drop x.1)).1).length),(17,.ref 8 0 (x.2.2 ++ (sendsR pl node W sf ep z (rds.drop x.1)).2).length)],[(7,⟨false,false,6,frs true (x.2.1 ++ (sendsR pl node W sf ep z (rds.drop x.1)).1),0⟩),(8,⟨false,false,1,ints (x.2.2 ++ (sendsR pl node W sf ep z (rds.drop x.1)).2),0⟩)],9⟩) := by
 refine loop_ind (σ:=Nat × (List Fr) × (List Int)) (fun x => rds.length - x.1) _ (fun x => ⟨[(2,.int .i64 node),(5,.lst false 0 (ets false z)),(6,.int .i64 ep),(7,.ptr 7 0 []),(8,.ptr 8 0 []),(10,.ptr 9 0 []),(11,.ptr 10 0 []),(16,.ref 11 0 x.2.1.length),(17,.ref 12 0 x.2.2.length),(28,.ref 13 0 rds.length),(29,.int .i64 rds.length),(30,.int .i64 x.1)],[(7,⟨true,false,1,[.lst false 0 (nds false 0 pl)],0⟩),(8,⟨true,false,1,[.lst false 0 (ints (widN pl))],0⟩),(9,⟨true,false,1,[.int .i64 W],0⟩),(10,⟨true,false,1,[.int .i64 sf],0⟩),(11,⟨false,false,6,frs true x.2.1,0⟩),(12,⟨false,false,1,ints x.2.2,0⟩),(13,⟨false,false,1,ints rds,0⟩)],14⟩) _ ?_
 rintro ⟨i,L,G⟩ hi ih s hs
 simp only at hi
 refine loop_s cd62 rfl rfl hs ?_
 obtain ⟨hi1,hi2,hi3⟩ := hi
 refine wa_ (wc_region (w_ (b_ (h:=wo_nil (e_ (h:=aft_normal (wa_ (?_))))))))
 refine c_ (h1:=?_) (h2:=?_)
 rotate_right 1
 focus
  intro c1
  first
  | exact dn c1
  | (
   have d1 := c1;try simp at d1
   refine wc_exit (?_)
   )
 rotate_right 1
 focus
  intro c1
  first
  | exact dn c1
  | (
   have d1 := c1;try simp at d1
   have hw := wrap_succ (i:=i) (by omega);obtain ⟨m,hx,e1,g1⟩ := ints_cut (l:=rds) (i:=i) (by omega);obtain ⟨h1,hm0,hm1⟩ := hr m (List.mem_of_getElem? hx);have hdl := nds_get (t:=false) (s:=0) (show pl[m.toNat]? = some (ndAt pl m) by unfold ndAt;rw [List.getElem?_eq_getElem (show m.toNat < pl.length by omega)];rfl);have hcm : routeC pl m W sf = 0 := (by unfold routeC nodeC;rw [if_pos hn,if_pos (by simp [inI];omega)];rw [if_pos ⟨by simp [inI];omega,by simp [inI];omega⟩]);have hrs := readsN_len (ndAt pl m);have hsl := sidesN_len (pl:=pl) (node:=node) (W:=W) (sf:=sf) (ep:=ep) (z:=z) (m:=m) (r:=readsN (ndAt pl m)) (s:=0);have hw6 : W * (readsN (ndAt pl m)).length ≤ 3 * 2 := Nat.mul_le_mul hw3 hrs
   refine wc_skip (?_)
   )
 all_goals first
 | refine aft_exit ?_
 | (
  refine aft_normal ?_
  refine wa_ (wc_block (wa_ (wc_region (w_ (x_ (h:=w_ (l_ (h:=w_ (al (h:=w0 (s_ (h:=wo_nil (e_ (h:=aft_normal (wa_ (wc_region (?_)))))))))))))))))
  refine w_ (l_ (h:=w_ (l_ (h:=w_ (x_ (h:=w_ (l_ (h:=w_ (ca (hc:=e_reads 0 (ndAt pl m)) (h:=w_ (le (h:=w_ (m_ (h:=wo_nil (e_ (h:=aft_normal (wc_block (?_))))))))))))))))))
  refine wc_loop (l_sd pl z W i rds (readsN (ndAt pl m)) m node sf ep hp hk hcm hz h1 hm hw3 hrs (0,L,G) ⟨by omega,by simp only;omega,by simp only;omega⟩ _ (by simp [normE])) ?_
  refine blk_exit (blk_normal (aft_normal (wc_region (w_ (b_ (h:=w_ (m_ (h:=wo_nil (e_ (h:=?_))))))))))
  )
 all_goals first
 | (refine (ih ((i + 1,L ++ (sidesN pl node W sf ep z m 0 (readsN (ndAt pl m))).1,G ++ (sidesN pl node W sf ep z m 0 (readsN (ndAt pl m))).2)) (⟨by simp only;omega,by simp;omega,by simp;omega⟩) ?_ _ ?_).trans ?_;(focus (first | omega | (simp;done) | (simp;omega)));(focus (simp [normE,hw];done));(focus (rw [e1];simp [sendsR])))
 | (apply end_leaf (ex:=(Ext.exit 0)) 7 (some [16,17]);(focus (simp [normE];rfl));(focus (obtain rfl : i = rds.length := (by omega);simp [sendsR])))
theorem rdFrom_len {a : Int} : ∀ {l : List Nd} {i : Nat},(rdFrom a i l).length ≤ l.length
  | [],i => by simp [rdFrom]
  | d :: r,i => by
    have := rdFrom_len (a:=a) (l:=r) (i:=i + 1)
    unfold rdFrom;split <;> simp <;> omega
theorem e_sendI (pl : List Nd) (node : Int) (W : Nat) (sf : Int) (z : List Et) (ep : Int) (hp : pl.length < 2000000) (hk : okN pl) (hn : (lookN pl).2 = 0) (hz : w_Ets z < 2000000) (hzw : ∀ e ∈ z,(e.row.length : Int) = at0 (widN pl) node) (hm : 0 < W) (hw3 : W ≤ 3) (hs : 0 ≤ sf ∧ sf < W) : oc.call 62 [.lst false 0 (nds false 0 pl),.lst false 0 (ints (widN pl)),.int .i64 node,.int .i64 W,.int .i64 sf,.lst false 0 (ets false z),.int .i64 ep] = some (.tup [.lst true 6 (frs true (sendsR pl node W sf ep z (rdFrom node 0 pl)).1),.lst true 1 (ints (sendsR pl node W sf ep z (rdFrom node 0 pl)).2)],[]) := by
 refine fun_s rfl cd62 rfl rfl rfl (by simp;rfl) (by simp;rfl) ?_
 have hr : ∀ m ∈ rdFrom node 0 pl,longE z (keyN pl m) = false ∧ 0 ≤ m ∧ m < pl.length := fun m hm => long_of hk hn hm hzw
 have hrl : (rdFrom node 0 pl).length ≤ 8 := by have h1 := rdFrom_len (a:=node) (l:=pl) (i:=0);have h2 := (look_good hk hn).2.2.2.2;omega
 refine wa_ (wc_region (w_ (bx (h:=w_ (bx (h:=w_ (bx (h:=w_ (bx (h:=w_ (aN (h:=w_ (aN (h:=wo_nil (e_ (h:=aft_normal (wa_ (wc_region (?_)))))))))))))))))))
 refine w_ (bs (h:=w_ (bs (h:=w_ (a_ (h:=w_ (a_ (h:=wo_nil (e_ (h:=aft_normal (wa_ (wa_ (wc_region (w_ (l_ (h:=w_ (m_ (h:=w_ (ca (hc:=e_readersI pl node hp hk) (h:=?_))))))))))))))))))))
 refine w_ (le (h:=w_ (m_ (h:=wo_nil (e_ (h:=aft_normal (wc_block (?_))))))))
 refine wc_loop (l_rd pl z W (rdFrom node 0 pl) node sf ep hp hk hn hz hr hm hw3 hs hrl (0,[],[]) ⟨by omega,by simp;omega,by simp;omega⟩ _ (by simp [normE])) ?_
 refine blk_exit (aft_normal (wa_ (wc_region (w_ (m_ (h:=w_ (m_ (h:=w_ (a_ (h:=w_ (a_ (h:=wo_nil (e_ (h:=aft_normal (wc_ret (?_))))))))))))))))
 all_goals (refine fin_ (hr:=(res_tmp rfl (res_tmp rfl res_nil))) (h:=?_);(focus (simp)))
end Go.Proofs.Ytbcgenkegnmkhaa.Ev
namespace Go.Proofs.Ytbcgenkegnmkhaa.Ev
open Go
set_option maxRecDepth 100000
set_option linter.unusedSimpArgs false
set_option linter.unusedVariables false
set_option maxHeartbeats 2000000
theorem e_l8Side (d : Nd) (side : Int) : oc.call 102 [d.v false 0,.int .i64 side] = some (.int .i64 (if side = 1 then d.b else d.a),[]) := by
 refine fun_s rfl cd102 rfl rfl rfl (by simp;rfl) (by simp;rfl) ?_
 refine wa_ (wc_region (w_ (bx (h:=w_ (a_ (h:=wo_nil (e_ (h:=aft_normal (wa_ (wa_ (wc_region (w_ (m_ (h:=w_ (bE (h:=wo_nil (e_ (h:=?_))))))))))))))))))
 refine aft_normal (?_)
 refine c_ (h1:=?_) (h2:=?_)
 rotate_right 1
 focus
  intro c1
  refine wc_skip (?_)
 rotate_right 1
 focus
  intro c1
  refine wa_ (wc_region (w_ (f_ (h:=w_ (l_ (h:=w_ (a_ (h:=wo_nil (e_ (h:=aft_normal (wc_ret (?_))))))))))))
 all_goals first
 | refine aft_ret ?_
 | (
  refine aft_normal ?_
  refine wa_ (wc_region (w_ (f_ (h:=w_ (l_ (h:=w_ (a_ (h:=wo_nil (e_ (h:=aft_normal (wc_ret (?_))))))))))))
  )
 all_goals (refine fin_ (hr:=(res_tmp rfl res_nil)) (h:=?_);(focus (first | (simp_all;done) | (simp_all <;> omega) | (simp_all <;> split <;> simp_all <;> omega))))
theorem l_spS (pl : List Nd) (z : List Et) (P : List (List Et)) (W i : Nat) (rds : List Int) (m sd node sf ep : Int) (hW : P.length = W) (hw3 : W ≤ 3) (hPl : ∀ p ∈ P,p.length < 2000000) : ∀ x : Nat × (List Fr) × (List Int),(x.1 ≤ W ∧ x.2.1.length + W < 1000 + x.1 ∧ x.2.2.length + W < 1000 + x.1) → ∀ s,normE 6 (some [0,1,2,3,4,5,14,15,16,17,18,19,20,21]) s = ⟨[(0,.lst false 0 (nds false 0 pl)),(1,.int .i64 node),(2,.int .i64 W),(3,.int .i64 sf),(4,.lst false 0 (ets false z)),(5,.int .i64 ep),(14,.ref 6 0 x.2.1.length),(15,.ref 7 0 x.2.2.length),(16,.ref 8 0 rds.length),(17,.int .i64 i),(18,.int .i64 m),(19,.int .i64 sd),(20,.ref 9 0 W),(21,.int .i64 x.1)],[(6,⟨false,false,6,frs true x.2.1,0⟩),(7,⟨false,false,1,ints x.2.2,0⟩),(8,⟨false,false,1,ints rds,0⟩),(9,⟨false,false,1,ovP x.1 P,0⟩)],10⟩ →
 oc.loop 56 14 s = some (.exit 4,⟨[(0,.lst false 0 (nds false 0 pl)),(1,.int .i64 node),(2,.int .i64 W),(3,.int .i64 sf),(4,.lst false 0 (ets false z)),(5,.int .i64 ep),(14,.ref 6 0 (x.2.1 ++ framesP m sd ep (P.drop x.1)).length),(15,.ref 7 0 (x.2.2 ++ goesP x.1 (P.drop x.1)).length),(16,.ref 8 0 rds.length),(17,.int .i64 i),(18,.int .i64 m),(19,.int .i64 sd)],[(6,⟨false,false,6,frs true (x.2.1 ++ framesP m sd ep (P.drop x.1)),0⟩),(7,⟨false,false,1,ints (x.2.2 ++ goesP x.1 (P.drop x.1)),0⟩),(8,⟨false,false,1,ints rds,0⟩)],9⟩) := by
 refine loop_ind (σ:=Nat × (List Fr) × (List Int)) (fun x => W - x.1) _ (fun x => ⟨[(0,.lst false 0 (nds false 0 pl)),(1,.int .i64 node),(2,.int .i64 W),(3,.int .i64 sf),(4,.lst false 0 (ets false z)),(5,.int .i64 ep),(14,.ref 6 0 x.2.1.length),(15,.ref 7 0 x.2.2.length),(16,.ref 8 0 rds.length),(17,.int .i64 i),(18,.int .i64 m),(19,.int .i64 sd),(20,.ref 9 0 W),(21,.int .i64 x.1)],[(6,⟨false,false,6,frs true x.2.1,0⟩),(7,⟨false,false,1,ints x.2.2,0⟩),(8,⟨false,false,1,ints rds,0⟩),(9,⟨false,false,1,ovP x.1 P,0⟩)],10⟩) _ ?_
 rintro ⟨k,L,G⟩ hi ih s hs
 simp only at hi
 refine loop_s cd56 rfl rfl hs ?_
 obtain ⟨hi1,hi2,hi3⟩ := hi
 refine wa_ (wa_ (wc_region (w_ (m_ (h:=w_ (m_ (h:=w_ (b_ (h:=wo_nil (e_ (h:=aft_normal (?_))))))))))))
 refine c_ (h1:=?_) (h2:=?_)
 rotate_right 1
 focus
  intro c1
  first
  | exact dn c1
  | (
   have d1 := c1;try simp at d1
   refine wc_exit (?_)
   )
 rotate_right 1
 focus
  intro c1
  first
  | exact dn c1
  | (
   have d1 := c1;try simp at d1
   have hw := wrap_succ (i:=k) (by omega);obtain ⟨p,hx,e1,_⟩ := etss_cut (t:=true) (l:=P) (i:=k) (by omega);have g1 := ovP_get hx;have hpl := hPl p (List.mem_of_getElem? hx)
   refine wc_skip (?_)
   )
 all_goals first
 | refine aft_exit ?_
 | (
  refine aft_normal ?_
  refine wa_ (wc_block (wa_ (wc_region (w_ (m_ (h:=w_ (m_ (h:=w_ (x_ (h:=w_ (l_ (h:=w_ (le (h:=w_ (b_ (h:=wo_nil (e_ (h:=aft_normal (?_)))))))))))))))))))
  refine c_ (h1:=?_) (h2:=?_)
  rotate_right 1
  focus
   intro c2
   first
   | exact dn c2
   | (
    have d2 := c2;try simp at d2
    have hpe : p = [] := (by cases p with | nil => rfl | cons y r => simp at c2);subst hpe;have hsame := ovP_same hx
    refine wc_skip (?_)
    )
  rotate_right 1
  focus
   intro c2
   first
   | exact dn c2
   | (
    have d2 := c2;try simp at d2
    have hpn : p ≠ [] := (by intro e;subst e;simp at c2);have hcut := ovP_cut hx hpn
    refine wa_ (wc_region (w_ (m_ (h:=w_ (m_ (h:=w_ (m_ (h:=w_ (m_ (h:=w_ (m_ (h:=w_ (m_ (h:=w_ (x_ (h:=w_ (l_ (h:=w_ (bd (h:=w_ (?_)))))))))))))))))))))
    refine bs (hf:=by (simp [g1];rfl)) (h:=?_)
    refine w_ (ap (h:=w_ (a_ (h:=wo_nil (e_ (h:=aft_normal (wc_region (w_ (m_ (h:=w_ (m_ (h:=w_ (bs (h:=w_ (ap (h:=w_ (a_ (h:=wo_nil (e_ (h:=?_))))))))))))))))))))
    )
  all_goals refine blk_normal ?_
  all_goals first
  | (
   refine aft_normal ?_
   refine wc_region (w_ (m_ (h:=w_ (b_ (h:=w_ (a_ (h:=wo_nil (e_ (h:=?_)))))))))
   )
  )
 all_goals first
 | (refine (ih ((k + 1,L ++ [⟨1,m,sd,ep,p,[]⟩],G ++ [(k : Int)])) (⟨by simp only;omega,by simp;omega,by simp;omega⟩) ?_ _ ?_).trans ?_;(focus (first | omega | (simp;done) | (simp;omega)));(focus (simp [normE,hw,hcut,frs_snoc0];done));(focus (rw [e1,framesP_1 hpn,goesP_1 hpn];simp)))
 | (refine (ih ((k + 1,L,G)) (⟨by simp only;omega,by simp only;omega,by simp only;omega⟩) ?_ _ ?_).trans ?_;(focus (first | omega | (simp;done) | (simp;omega)));(focus (simp [normE,hw,hsame];done));(focus (rw [e1,framesP_0,goesP_0])))
 | (apply end_leaf (ex:=(Ext.exit 4)) 6 (some [0,1,2,3,4,5,14,15,16,17,18,19]);(focus (simp [normE];rfl));(focus (obtain rfl : k = P.length := (by omega);simp [framesP,goesP])))
theorem readsN_num (d : Nd) : ((readsN d).length : Int) = if d.op = 1 then 0 else if d.op = 4 ∨ d.op = 6 then 2 else 1 := by unfold readsN;split <;> (try split) <;> simp
theorem readsN_at {d : Nd} {j : Nat} {x : Int} (h : (readsN d)[j]? = some x) : (if (j : Int) = 1 then d.b else d.a) = x := by
  unfold readsN at h
  split at h
  · simp at h
  · split at h
    · match j with
      | 0 => simpa using h
      | 1 => simpa using h
      | j + 2 => simp at h
    · match j with
      | 0 => simpa using h
      | j + 1 => simp at h
theorem l_sdS (pl : List Nd) (z : List Et) (W i : Nat) (rds : List Int) (m node sf ep : Int) (d : Nd) (hd : (nds false 0 pl)[m.toNat]? = some (d.v false 0)) (hm0 : 0 ≤ m) (hdc : d.cells.length < 2000000) (hp : pl.length < 2000000) (hk : okN pl) (hc : routeC pl m W sf = 0) (hz : w_Ets z < 2000000) (h1 : longE z (keyN pl m) = false) (hm : 0 < W) (hw3 : W ≤ 3) : ∀ x : Nat × (List Fr) × (List Int),(x.1 ≤ (readsN d).length ∧ x.2.1.length + 10 * (readsN d).length < 500 + 10 * x.1 ∧ x.2.2.length + 10 * (readsN d).length < 500 + 10 * x.1) → ∀ s,normE 6 (some [0,1,2,3,4,5,14,15,16,17,18,19]) s = ⟨[(0,.lst false 0 (nds false 0 pl)),(1,.int .i64 node),(2,.int .i64 W),(3,.int .i64 sf),(4,.lst false 0 (ets false z)),(5,.int .i64 ep),(14,.ref 6 0 x.2.1.length),(15,.ref 7 0 x.2.2.length),(16,.ref 8 0 rds.length),(17,.int .i64 i),(18,.int .i64 m),(19,.int .i64 x.1)],[(6,⟨false,false,6,frs true x.2.1,0⟩),(7,⟨false,false,1,ints x.2.2,0⟩),(8,⟨false,false,1,ints rds,0⟩)],9⟩ →
 oc.loop 56 9 s = some (.exit 2,⟨[(0,.lst false 0 (nds false 0 pl)),(1,.int .i64 node),(2,.int .i64 W),(3,.int .i64 sf),(4,.lst false 0 (ets false z)),(5,.int .i64 ep),(14,.ref 6 0 (x.2.1 ++ (sidesN pl node W sf ep z m x.1 ((readsN d).drop x.1)).1).length),(15,.ref 7 0 (x.2.2 ++ (sidesN pl node W sf ep z m x.1 ((readsN d).drop x.1)).2).length),(16,.ref 8 0 rds.length),(17,.int .i64 i)],[(6,⟨false,false,6,frs true (x.2.1 ++ (sidesN pl node W sf ep z m x.1 ((readsN d).drop x.1)).1),0⟩),(7,⟨false,false,1,ints (x.2.2 ++ (sidesN pl node W sf ep z m x.1 ((readsN d).drop x.1)).2),0⟩),(8,⟨false,false,1,ints rds,0⟩)],9⟩) := by
 refine loop_ind (σ:=Nat × (List Fr) × (List Int)) (fun x => (readsN d).length - x.1) _ (fun x => ⟨[(0,.lst false 0 (nds false 0 pl)),(1,.int .i64 node),(2,.int .i64 W),(3,.int .i64 sf),(4,.lst false 0 (ets false z)),(5,.int .i64 ep),(14,.ref 6 0 x.2.1.length),(15,.ref 7 0 x.2.2.length),(16,.ref 8 0 rds.length),(17,.int .i64 i),(18,.int .i64 m),(19,.int .i64 x.1)],[(6,⟨false,false,6,frs true x.2.1,0⟩),(7,⟨false,false,1,ints x.2.2,0⟩),(8,⟨false,false,1,ints rds,0⟩)],9⟩) _ ?_
 rintro ⟨j,L,G⟩ hi ih s hs
 simp only at hi
 refine loop_s cd56 rfl rfl hs ?_
 obtain ⟨hi1,hi2,hi3⟩ := hi
 have hPl : ∀ p ∈ prtN pl W sf z m,p.length < 2000000 := fun p hp => by have h2 := w_Ets_sub (partsN_mem hp);have h3 := w_Ets_len (l:=p);omega
 have hf := framesP_len m j ep (prtN pl W sf z m)
 have hg := goesP_len 0 (prtN pl W sf z m)
 have hpl := prt_len (pl:=pl) (W:=W) (sf:=sf) (z:=z) (m:=m)
 rw [hpl] at hf hg
 have hnum := readsN_num d
 have hl2 := readsN_len d
 refine wa_ (wa_ (wc_region (w_ (m_ (h:=w_ (m_ (h:=w_ (m_ (h:=w_ (x_ (h:=w_ (f_ (h:=w_ (l_ (h:=w_ (ca (hc:=e_l3Reads d.op) (h:=w_ (b_ (h:=wo_nil (e_ (h:=?_)))))))))))))))))))))
 refine aft_normal (?_)
 refine c_ (h1:=?_) (h2:=?_)
 rotate_right 1
 focus
  intro c1
  first
  | exact dn c1
  | (
   have d1 := c1;try simp at d1
   have hje : j = (readsN d).length := (by rw [← hnum] at c1;simp at c1;omega)
   refine wc_exit (?_)
   )
 rotate_right 1
 focus
  intro c1
  first
  | exact dn c1
  | (
   have d1 := c1;try simp at d1
   have hjl : j < (readsN d).length := (by rw [← hnum] at c1;simp at c1;omega);have hw := wrap_succ (i:=j) (by omega);obtain ⟨x,hx,e1,_⟩ := ints_cut (l:=readsN d) (i:=j) hjl;have hxx := readsN_at hx
   refine wc_skip (?_)
   )
 all_goals first
 | refine aft_exit ?_
 | (
  refine aft_normal ?_
  refine wa_ (wc_block (wa_ (wa_ (wc_region (w_ (m_ (h:=w_ (m_ (h:=w_ (x_ (h:=w_ (l_ (h:=w_ (m_ (h:=w_ (ca (hc:=e_l8Side d j) (h:=w_ (m_ (h:=?_)))))))))))))))))))
  refine w_ (bE (h:=wo_nil (e_ (h:=aft_normal (?_)))))
  refine c_ (h1:=?_) (h2:=?_)
  rotate_right 1
  focus
   intro c2
   first
   | exact dn c2
   | (
    have d2 := c2;try simp at d2
    refine wc_skip (?_)
    )
  rotate_right 1
  focus
   intro c2
   first
   | exact dn c2
   | (
    have d2 := c2;try simp at d2
    refine wc_exit (?_)
    )
  all_goals first
  | refine aft_exit ?_
  | (
   refine aft_normal ?_
   refine wa_ (wc_region (w_ (m_ (h:=w_ (m_ (h:=w_ (m_ (h:=w_ (m_ (h:=w_ (m_ (h:=w_ (ca (hc:=e_rou2 pl m sf z W hp hk hc hz hm (by omega) h1) (h:=w_ (a_ (h:=wo_nil (e_ (h:=aft_normal (wa_ (?_))))))))))))))))))))
   refine wc_region (w_ (a_ (h:=wo_nil (e_ (h:=aft_normal (wc_block (?_)))))))
   refine wc_loop (l_spS pl z (prtN pl W sf z m) W i rds m j node sf ep hpl hw3 hPl (0,L,G) ⟨by omega,by simp only;omega,by simp only;omega⟩ _ (by simp [normE,prtN])) ?_
   refine blk_exit (?_)
   )
  all_goals first | refine blk_normal ?_ | refine blk_exit ?_
  all_goals first
  | (
   refine aft_normal ?_
   refine wc_region (w_ (m_ (h:=w_ (b_ (h:=w_ (a_ (h:=wo_nil (e_ (h:=?_)))))))))
   )
  )
 all_goals first
 | (refine (ih ((j + 1,L ++ framesP m j ep (prtN pl W sf z m),G ++ goesP 0 (prtN pl W sf z m))) (⟨by simp only;omega,by simp;omega,by simp;omega⟩) ?_ _ ?_).trans ?_;(focus (first | omega | (simp;done) | (simp;omega)));(focus (simp [normE,hw];done));(focus (rw [hxx] at c2;rw [e1,sidesN_1 (by simpa using c2)];simp)))
 | (refine (ih ((j + 1,L,G)) (⟨by simp only;omega,by simp only;omega,by simp only;omega⟩) ?_ _ ?_).trans ?_;(focus (first | omega | (simp;done) | (simp;omega)));(focus (simp [normE,hw];done));(focus (rw [hxx] at c2;rw [e1,sidesN_0 (by simpa using c2)])))
 | (apply end_leaf (ex:=(Ext.exit 2)) 6 (some [0,1,2,3,4,5,14,15,16,17]);(focus (simp [normE];rfl));(focus (subst hje;simp [sidesN])))
theorem l_rdS (pl : List Nd) (z : List Et) (W : Nat) (rds : List Int) (node sf ep : Int) (hp : pl.length < 2000000) (hk : okN pl) (hn : (lookN pl).2 = 0) (hz : w_Ets z < 2000000) (hr : ∀ m ∈ rds,longE z (keyN pl m) = false ∧ 0 ≤ m ∧ m < pl.length) (hm : 0 < W) (hw3 : W ≤ 3) (hs : 0 ≤ sf ∧ sf < W) (hrl : rds.length ≤ 8) : ∀ x : Nat × (List Fr) × (List Int),(x.1 ≤ rds.length ∧ x.2.1.length + 10 * rds.length < 200 + 10 * x.1 ∧ x.2.2.length + 10 * rds.length < 200 + 10 * x.1) → ∀ s,normE 6 (some [0,1,2,3,4,5,14,15,16,17]) s = ⟨[(0,.lst false 0 (nds false 0 pl)),(1,.int .i64 node),(2,.int .i64 W),(3,.int .i64 sf),(4,.lst false 0 (ets false z)),(5,.int .i64 ep),(14,.ref 6 0 x.2.1.length),(15,.ref 7 0 x.2.2.length),(16,.ref 8 0 rds.length),(17,.int .i64 x.1)],[(6,⟨false,false,6,frs true x.2.1,0⟩),(7,⟨false,false,1,ints x.2.2,0⟩),(8,⟨false,false,1,ints rds,0⟩)],9⟩ →
 oc.loop 56 5 s = some (.exit 0,⟨[(14,.ref 6 0 (x.2.1 ++ (sendsR pl node W sf ep z (rds.drop x.1)).1).length),(15,.ref 7 0 (x.2.2 ++ (sendsR pl node W sf ep z (rds.drop x.1)).2).length)],[(6,⟨false,false,6,frs true (x.2.1 ++ (sendsR pl node W sf ep z (rds.drop x.1)).1),0⟩),(7,⟨false,false,1,ints (x.2.2 ++ (sendsR pl node W sf ep z (rds.drop x.1)).2),0⟩)],8⟩) := by
 refine loop_ind (σ:=Nat × (List Fr) × (List Int)) (fun x => rds.length - x.1) _ (fun x => ⟨[(0,.lst false 0 (nds false 0 pl)),(1,.int .i64 node),(2,.int .i64 W),(3,.int .i64 sf),(4,.lst false 0 (ets false z)),(5,.int .i64 ep),(14,.ref 6 0 x.2.1.length),(15,.ref 7 0 x.2.2.length),(16,.ref 8 0 rds.length),(17,.int .i64 x.1)],[(6,⟨false,false,6,frs true x.2.1,0⟩),(7,⟨false,false,1,ints x.2.2,0⟩),(8,⟨false,false,1,ints rds,0⟩)],9⟩) _ ?_
 rintro ⟨i,L,G⟩ hi ih s hs
 simp only at hi
 refine loop_s cd56 rfl rfl hs ?_
 obtain ⟨hi1,hi2,hi3⟩ := hi
 refine wa_ (wa_ (wc_region (w_ (m_ (h:=w_ (m_ (h:=w_ (le (h:=w_ (b_ (h:=wo_nil (e_ (h:=aft_normal (?_))))))))))))))
 refine c_ (h1:=?_) (h2:=?_)
 rotate_right 1
 focus
  intro c1
  first
  | exact dn c1
  | (
   have d1 := c1;try simp at d1
   refine wc_exit (?_)
   )
 rotate_right 1
 focus
  intro c1
  first
  | exact dn c1
  | (
   have d1 := c1;try simp at d1
   have hw := wrap_succ (i:=i) (by omega);obtain ⟨m,hx,e1,g1⟩ := ints_cut (l:=rds) (i:=i) (by omega);obtain ⟨h1,hm0,hm1⟩ := hr m (List.mem_of_getElem? hx);have hpm : pl[m.toNat]? = some (ndAt pl m) := (by unfold ndAt;rw [List.getElem?_eq_getElem (show m.toNat < pl.length by omega)];rfl);have hdl := nds_get (t:=false) (s:=0) hpm;have hdc := hk _ (List.mem_of_getElem? hpm);have hcm : routeC pl m W sf = 0 := (by unfold routeC nodeC;rw [if_pos hn,if_pos (by simp [inI];omega)];rw [if_pos ⟨by simp [inI];omega,by simp [inI];omega⟩]);have hrs := readsN_len (ndAt pl m);have hsl := sidesN_len (pl:=pl) (node:=node) (W:=W) (sf:=sf) (ep:=ep) (z:=z) (m:=m) (r:=readsN (ndAt pl m)) (s:=0);have hw6 : W * (readsN (ndAt pl m)).length ≤ 3 * 2 := Nat.mul_le_mul hw3 hrs
   refine wc_skip (?_)
   )
 all_goals first
 | refine aft_exit ?_
 | (
  refine aft_normal ?_
  refine wa_ (wc_block (wa_ (wc_region (w_ (m_ (h:=w_ (m_ (h:=w_ (x_ (h:=w_ (l_ (h:=w_ (a_ (h:=wo_nil (e_ (h:=aft_normal (wa_ (?_))))))))))))))))))
  refine wc_region (w_ (a_ (h:=wo_nil (e_ (h:=aft_normal (wc_block (?_)))))))
  refine wc_loop (l_sdS pl z W i rds m node sf ep (ndAt pl m) hdl hm0 hdc hp hk hcm hz h1 hm hw3 (0,L,G) ⟨by omega,by simp only;omega,by simp only;omega⟩ _ (by simp [normE])) ?_
  refine blk_exit (blk_normal (aft_normal (wc_region (w_ (m_ (h:=w_ (b_ (h:=w_ (a_ (h:=wo_nil (e_ (h:=?_))))))))))))
  )
 all_goals first
 | (refine (ih ((i + 1,L ++ (sidesN pl node W sf ep z m 0 (readsN (ndAt pl m))).1,G ++ (sidesN pl node W sf ep z m 0 (readsN (ndAt pl m))).2)) (⟨by simp only;omega,by simp;omega,by simp;omega⟩) ?_ _ ?_).trans ?_;(focus (first | omega | (simp;done) | (simp;omega)));(focus (simp [normE,hw];done));(focus (rw [e1];simp [sendsR])))
 | (apply end_leaf (ex:=(Ext.exit 0)) 6 (some [14,15]);(focus (simp [normE];rfl));(focus (obtain rfl : i = rds.length := (by omega);simp [sendsR])))
theorem e_sendS (pl : List Nd) (node : Int) (W : Nat) (sf : Int) (z : List Et) (ep : Int) (hp : pl.length < 2000000) (hk : okN pl) (hn : (lookN pl).2 = 0) (hz : w_Ets z < 2000000) (hzw : ∀ e ∈ z,(e.row.length : Int) = at0 (widN pl) node) (hm : 0 < W) (hw3 : W ≤ 3) (hs : 0 ≤ sf ∧ sf < W) : oc.call 56 [.lst false 0 (nds false 0 pl),.int .i64 node,.int .i64 W,.int .i64 sf,.lst false 0 (ets false z),.int .i64 ep] = some (.tup [.lst true 6 (frs true (sendsR pl node W sf ep z (rdFrom node 0 pl)).1),.lst true 1 (ints (sendsR pl node W sf ep z (rdFrom node 0 pl)).2)],[]) := by
 refine fun_s rfl cd56 rfl rfl rfl (by simp;rfl) (by simp;rfl) ?_
 have hr : ∀ m ∈ rdFrom node 0 pl,longE z (keyN pl m) = false ∧ 0 ≤ m ∧ m < pl.length := fun m hm => long_of hk hn hm hzw
 have hrl : (rdFrom node 0 pl).length ≤ 8 := by have h1 := rdFrom_len (a:=node) (l:=pl) (i:=0);have h2 := (look_good hk hn).2.2.2.2;omega
 refine wa_ (wc_region (w_ (aN (h:=w_ (aN (h:=wo_nil (e_ (h:=aft_normal (wa_ (wc_region (w_ (bs (h:=w_ (a_ (h:=wo_nil (e_ (h:=aft_normal (?_))))))))))))))))))
 refine wa_ (wc_region (w_ (bs (h:=w_ (a_ (h:=wo_nil (e_ (h:=aft_normal (wa_ (wc_region (w_ (m_ (h:=w_ (m_ (h:=w_ (ca (hc:=e_readersS pl node hp hk) (h:=w_ (a_ (h:=?_)))))))))))))))))))
 refine wo_nil (e_ (h:=aft_normal (wa_ (wa_ (wc_region (w_ (a_ (h:=wo_nil (e_ (h:=aft_normal (wc_block (?_))))))))))))
 refine wc_loop (l_rdS pl z W (rdFrom node 0 pl) node sf ep hp hk hn hz hr hm hw3 hs hrl (0,[],[]) ⟨by omega,by simp;omega,by simp;omega⟩ _ (by simp [normE])) ?_
 refine blk_exit (aft_normal (wa_ (wc_region (w_ (m_ (h:=w_ (m_ (h:=w_ (a_ (h:=w_ (a_ (h:=wo_nil (e_ (h:=aft_normal (wc_ret (?_))))))))))))))))
 all_goals (refine fin_ (hr:=(res_tmp rfl (res_tmp rfl res_nil))) (h:=?_);(focus (simp)))
end Go.Proofs.Ytbcgenkegnmkhaa.Ev
