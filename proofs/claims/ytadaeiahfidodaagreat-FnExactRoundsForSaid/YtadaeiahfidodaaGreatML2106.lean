/- Part 6 of the proof that the law named in the last part returns true at every argument: an evaluator of the program, shown sound, and its runs. No further conditions. -/
import Derived.Test.YtadaeiahfidodaaGreatML2105
namespace Go.Proofs.YtadaeiahfidodaaGreat.Ev
open Go
set_option maxRecDepth 100000
set_option linter.unusedSimpArgs false
set_option linter.unusedVariables false
set_option maxHeartbeats 2000000
abbrev frZ : V := .agg [.int .i64 0,.int .i64 0,.int .i64 0,.int .i64 0,.lst true 2 [],.lst true 3 []]
theorem grow_pos (e : List (Nat × V)) (o : List (Nat × Ob)) (k : Int) (hk : 0 < k) (hk2 : k < 2000000) : oc.call.i 87 [.emp true,.int .i64 k] ⟨e,o,33⟩ 33 = some (.ref 609 0 0,⟨e,(609,⟨false,false,6,List.replicate k.toNat frZ,0⟩) :: o,833⟩) := by
 have h0 : IntKind.i64.wrap (0 - 0) = 0 := by decide
 have hw : IntKind.i64.wrap (k - IntKind.i64.wrap (0 - 0)) = k := by rw [h0,Int.sub_zero];exact wrap_id (by omega) (by omega)
 apply inl_s (by rw [cf_pl];rfl) cd87 rfl rfl (by simp;rfl)
 refine wa_ (wc_region (w_ (aN (h:=wo_nil (e_ (h:=aft_normal (wa_ (wa_ (wc_region (w_ (m_ (h:=w_ (b_ (h:=wo_nil (e_ (h:=aft_normal (?_)))))))))))))))))
 refine c_ (h1:=?_) (h2:=?_)
 rotate_right 1
 focus
  intro c1
  first
  | exact dn c1
  | (
   have d1 := c1;try simp at d1
   refine wc_skip (?_)
   )
 rotate_right 1
 focus
  intro c1
  first
  | exact dn c1
  | (
   have d1 := c1;try simp at d1
   exfalso;omega
   )
 all_goals first
 | (
  refine aft_normal ?_
  refine wa_ (wa_ (wc_region (w_ (m_ (h:=w_ (m_ (h:=w_ (cc (h:=w_ (m_ (h:=w_ (le (h:=w_ (b_ (h:=w_ (b_ (h:=w_ (a_ (h:=wo_nil (e_ (h:=aft_normal (wa_ (wc_region (w_ (m_ (h:=w_ (b_ (h:=wo_nil (e_ (h:=aft_normal (?_)))))))))))))))))))))))))))))))
  refine c_ (h1:=?_) (h2:=?_)
  rotate_right 1
  focus
   intro c2
   first
   | exact dn c2
   | (
    have d2 := c2;try simp at d2
    exfalso;rw [hw] at c2;simp at c2;omega
    )
  rotate_right 1
  focus
   intro c2
   first
   | exact dn c2
   | (
    have d2 := c2;try simp at d2
    refine wc_region (w_ (m_ (h:=w_ (m_ (h:=w_ (cc (h:=w_ (sl (h:=w_ (m_ (h:=w_ (?_))))))))))))
    simp only [hw];refine apZ (h:=?_)
    refine w_ (m_ (h:=w_ (le (h:=w_ (sl (h:=w_ (a_ (h:=wo_nil (e_ (h:=?_))))))))))
    )
  all_goals first
  | (
   refine aft_normal ?_
   refine wa_ (wc_region (w_ (m_ (h:=w_ (a_ (h:=wo_nil (e_ (h:=aft_normal (wc_ret (?_))))))))))
   )
  )
 all_goals (exact ⟨by simp,_,rfl,rfl,rfl⟩)
theorem grow_nil (e : List (Nat × V)) (o : List (Nat × Ob)) : oc.call.i 87 [.emp true,.int .i64 0] ⟨e,o,33⟩ 33 = some (.emp true,⟨e,o,513⟩) := by
 have h0 : IntKind.i64.wrap (0 - 0) = 0 := by decide
 have hw : IntKind.i64.wrap (0 - IntKind.i64.wrap (0 - 0)) = 0 := by rw [h0];decide
 apply inl_s (by rw [cf_pl];rfl) cd87 rfl rfl (by simp;rfl)
 refine wa_ (wc_region (w_ (aN (h:=wo_nil (e_ (h:=aft_normal (wa_ (wa_ (wc_region (w_ (m_ (h:=w_ (b_ (h:=wo_nil (e_ (h:=aft_normal (?_)))))))))))))))))
 refine c_ (h1:=?_) (h2:=?_)
 rotate_right 1
 focus
  intro c1
  first
  | exact dn c1
  | (
   have d1 := c1;try simp at d1
   refine wc_skip (?_)
   )
 rotate_right 1
 focus
  intro c1
  first
  | exact dn c1
  | (
   have d1 := c1;try simp at d1
   exfalso;omega
   )
 all_goals first
 | (
  refine aft_normal ?_
  refine wa_ (wa_ (wc_region (w_ (m_ (h:=w_ (m_ (h:=w_ (cc (h:=w_ (m_ (h:=w_ (le (h:=w_ (b_ (h:=w_ (b_ (h:=w_ (a_ (h:=wo_nil (e_ (h:=aft_normal (wa_ (wc_region (w_ (m_ (h:=w_ (b_ (h:=wo_nil (e_ (h:=aft_normal (?_)))))))))))))))))))))))))))))))
  refine c_ (h1:=?_) (h2:=?_)
  rotate_right 1
  focus
   intro c2
   first
   | exact dn c2
   | (
    have d2 := c2;try simp at d2
    refine wc_skip (?_)
    )
  rotate_right 1
  focus
   intro c2
   first
   | exact dn c2
   | (
    have d2 := c2;try simp at d2
    exfalso;rw [hw] at c2;simp at c2
    )
  all_goals first
  | (
   refine aft_normal ?_
   refine wa_ (wc_region (w_ (m_ (h:=w_ (a_ (h:=wo_nil (e_ (h:=aft_normal (wc_ret (?_))))))))))
   )
  )
 all_goals (exact ⟨by simp,_,rfl,rfl,rfl⟩)
theorem wS_cutL {α : Type} {f : α → Nat} {l : List α} {i : Nat} {x : α} (h : l[i]? = some x) : wS f (l.take (i + 1)) = wS f (l.take i) + f x := by
  induction l generalizing i with
  | nil => simp at h
  | cons y r ih =>
    cases i with
    | zero => simp at h;subst h;simp
    | succ i => simp at h;simp only [List.take_succ_cons,wS_cons];rw [ih h];omega
theorem wS_takeL {α : Type} {f : α → Nat} {l : List α} {i : Nat} : wS f (l.take i) ≤ wS f l := by
  induction l generalizing i with
  | nil => simp
  | cons y r ih =>
    cases i with
    | zero => simp
    | succ i => have := ih (i:=i);simp only [List.take_succ_cons,wS_cons];omega
def lenS (l : List (List Fr)) : Nat := wS List.length l
theorem lenS_cut {l : List (List Fr)} {i : Nat} {x : List Fr} (h : l[i]? = some x) : lenS (l.take (i + 1)) = lenS (l.take i) + x.length := wS_cutL h
theorem lenS_take {l : List (List Fr)} {i : Nat} : lenS (l.take i) ≤ lenS l := wS_takeL
theorem lenS_flat {l : List (List Fr)} : l.flatten.length = lenS l := by
  induction l with
  | nil => rfl
  | cons x r ih => simp only [List.flatten_cons,List.length_append,ih,lenS,wS_cons]
theorem flat_cut {l : List (List Fr)} {i : Nat} {x : List Fr} (h : l[i]? = some x) : (l.take (i + 1)).flatten = (l.take i).flatten ++ x := by
  rw [List.take_add_one,h];simp
theorem l_catSz (ls : List (List Fr)) (hl : ls.length < 2000000) (hs0 : lenS ls < 2000000) : ∀ i : Nat,(i ≤ ls.length) → ∀ s,normE 1 (some [0,3,9,10,11]) s = ⟨[(0,.lst false 0 (frss false ls)),(3,.int .i64 (lenS (ls.take i) : Nat)),(9,.lst false 0 (frss false ls)),(10,.int .i64 ls.length),(11,.int .i64 i)],[],1⟩ →
 oc.loop 52 3 s = some (.exit 0,⟨[(0,.lst false 0 (frss false ls)),(3,.int .i64 (lenS ls : Nat))],[],1⟩) := by
 refine loop_ind (σ:=Nat) (fun i => ls.length - i) _ (fun i => ⟨[(0,.lst false 0 (frss false ls)),(3,.int .i64 (lenS (ls.take i) : Nat)),(9,.lst false 0 (frss false ls)),(10,.int .i64 ls.length),(11,.int .i64 i)],[],1⟩) _ ?_
 intro i hi ih s hs
 refine loop_s cd52 rfl rfl hs ?_
 refine wa_ (wc_region (w_ (b_ (h:=wo_nil (e_ (h:=aft_normal (wa_ (?_))))))))
 refine c_ (h1:=?_) (h2:=?_)
 rotate_right 1
 focus
  intro c1
  first
  | exact dn c1
  | (
   have d1 := c1;try simp at d1
   refine wc_exit (?_)
   )
 rotate_right 1
 focus
  intro c1
  first
  | exact dn c1
  | (
   have d1 := c1;try simp at d1
   have hw := wrap_succ (i:=i) (by omega);obtain ⟨c,hx,e1,g1⟩ := frss_cut (t:=false) (l:=ls) (i:=i) (by omega);have hcut := lenS_cut hx;have hle := lenS_take (l:=ls) (i:=i + 1);have hws : IntKind.i64.wrap ((lenS (ls.take i) : Nat) + (c.length : Int)) = (lenS (ls.take (i + 1)) : Nat) := (wrap_id (by omega) (by omega)).trans (by omega)
   refine wc_skip (?_)
   )
 all_goals first
 | refine aft_exit ?_
 | (
  refine aft_normal ?_
  refine wa_ (wc_block (wa_ (wc_region (w_ (x_ (h:=w_ (l_ (h:=w_ (a_ (h:=wo_nil (e_ (h:=aft_normal (wa_ (wc_region (w_ (m_ (h:=w_ (m_ (h:=w_ (le (h:=w_ (b_ (h:=w_ (a_ (h:=wo_nil (e_ (h:=aft_normal (wa_ (wc_region (w_ (m_ (h:=w_ (b_ (h:=wo_nil (e_ (h:=aft_normal (?_)))))))))))))))))))))))))))))))))))))
  refine c_ (h1:=?_) (h2:=?_)
  rotate_right 1
  focus
   intro c2
   first
   | exact dn c2
   | (
    have d2 := c2;try simp at d2
    refine wc_skip (?_)
    )
  rotate_right 1
  focus
   intro c2
   first
   | exact dn c2
   | (
    have d2 := c2;try simp at d2
    exfalso;clear ih hs;omega
    )
  all_goals refine blk_normal ?_
  all_goals first
  | (
   refine aft_normal ?_
   refine wc_region (w_ (b_ (h:=w_ (m_ (h:=wo_nil (e_ (h:=?_)))))))
   )
  )
 all_goals first
 | (refine (ih (i + 1) (by omega) ?_ _ ?_).trans ?_;(focus (first | omega | (simp;done) | (simp;omega)));(focus (simp [normE,hw,hws];done));(focus (rfl)))
 | (apply end_leaf (ex:=(Ext.exit 0)) 1 (some [0,3]);(focus (simp [normE];rfl));(focus (rw [List.take_of_length_le (by omega)])))
theorem l_cat (ls : List (List Fr)) (hl : ls.length < 2000000) (hs0 : lenS ls < 2000000) : ∀ i : Nat,(i ≤ ls.length) → ∀ s,normE 1 (some [6,25,26,27]) s = ⟨[(6,.ref 1 0 (lenS (ls.take i))),(25,.lst false 0 (frss false ls)),(26,.int .i64 ls.length),(27,.int .i64 i)],[(1,⟨false,false,6,frs false (ls.take i).flatten,0⟩)],2⟩ →
 oc.loop 52 11 s = some (.exit 2,⟨[(6,.ref 1 0 (lenS ls))],[(1,⟨false,false,6,frs false ls.flatten,0⟩)],2⟩) := by
 refine loop_ind (σ:=Nat) (fun i => ls.length - i) _ (fun i => ⟨[(6,.ref 1 0 (lenS (ls.take i))),(25,.lst false 0 (frss false ls)),(26,.int .i64 ls.length),(27,.int .i64 i)],[(1,⟨false,false,6,frs false (ls.take i).flatten,0⟩)],2⟩) _ ?_
 intro i hi ih s hs
 refine loop_s cd52 rfl rfl hs ?_
 have hT := lenS_take (l:=ls) (i:=i)
 generalize hF : (ls.take i).flatten = F
 have hN : lenS (ls.take i) = F.length := by rw [← hF];exact lenS_flat.symm
 rw [hN] at hT ⊢
 refine wa_ (wc_region (w_ (b_ (h:=wo_nil (e_ (h:=aft_normal (wa_ (?_))))))))
 refine c_ (h1:=?_) (h2:=?_)
 rotate_right 1
 focus
  intro c1
  first
  | exact dn c1
  | (
   have d1 := c1;try simp at d1
   refine wc_exit (?_)
   )
 rotate_right 1
 focus
  intro c1
  first
  | exact dn c1
  | (
   have d1 := c1;try simp at d1
   have hw := wrap_succ (i:=i) (by omega);obtain ⟨c,hx,e1,g1⟩ := frss_cut (t:=false) (l:=ls) (i:=i) (by omega);have hcut := lenS_cut hx;rw [hN] at hcut;have hle := lenS_take (l:=ls) (i:=i + 1);have hfl := flat_cut hx;rw [hF] at hfl
   refine wc_skip (?_)
   )
 all_goals first
 | refine aft_exit ?_
 | (
  refine aft_normal ?_
  refine wa_ (wc_block (wa_ (wc_region (w_ (x_ (h:=w_ (l_ (h:=w_ (a_ (h:=wo_nil (e_ (h:=aft_normal (wc_region (w_ (m_ (h:=w_ (m_ (h:=w_ (ap (h:=w_ (a_ (h:=wo_nil (e_ (h:=blk_normal (aft_normal (wc_region (w_ (b_ (h:=w_ (m_ (h:=wo_nil (e_ (h:=?_)))))))))))))))))))))))))))))))))
  )
 all_goals first
 | (refine (ih (i + 1) (by omega) ?_ _ ?_).trans ?_;(focus (first | omega | (simp;done) | (simp;omega)));(focus (simp [normE,hw,hcut,hfl];done));(focus (rfl)))
 | (apply end_leaf (ex:=(Ext.exit 2)) 1 (some [6]);(focus (simp [normE];rfl));(focus (rw [List.take_of_length_le (by omega)] at hF hN;subst hF;simp [hN])))
theorem cat_nil (ls : List (List Fr)) (hl : ls.length < 2000000) (hs0 : lenS ls < 2000000) (hne : 0 < ls.length) (L : List Fr) (hL : ls.flatten = L) : ∀ s,normE 1 (some [6,25,26,27]) s = ⟨[(6,.emp true),(25,.lst false 0 (frss false ls)),(26,.int .i64 ls.length),(27,.int .i64 0)],[],1⟩ → oc.loop 52 11 s = some (.exit 2,⟨[(6,.ref 1 0 L.length)],[(1,⟨false,false,6,frs false L,0⟩)],2⟩) := by
 intro s hs
 obtain ⟨c,hx,e1,g1⟩ := frss_cut (t:=false) (l:=ls) (i:=0) hne
 change (frss false ls)[(0 : Int).toNat]? = _ at g1
 have hcut := lenS_cut hx
 have hfl := flat_cut hx
 have hle := lenS_take (l:=ls) (i:=0 + 1)
 have hw : IntKind.i64.wrap (0 + 1) = 1 := by decide
 have hw1 : IntKind.i64.wrap 1 = 1 := by decide
 have hcl : c.length < 2000000 := by omega
 simp [lenS] at hcut hfl
 refine loop_s cd52 rfl rfl hs ?_
 refine wa_ (wc_region (w_ (b_ (h:=wo_nil (e_ (h:=aft_normal (wa_ (?_))))))))
 refine c_ (h1:=?_) (h2:=?_)
 rotate_right 1
 focus
  intro c1
  first
  | exact dn c1
  | (
   have d1 := c1;try simp at d1
   exfalso;rw [decide_eq_false_iff_not] at c1;omega
   )
 rotate_right 1
 focus
  intro c1
  first
  | exact dn c1
  | (
   have d1 := c1;try simp at d1
   refine wc_skip (?_)
   )
 all_goals first
 | refine aft_exit ?_
 | (
  refine aft_normal ?_
  refine wa_ (wc_block (wa_ (wc_region (w_ (x_ (h:=w_ (l_ (h:=w_ (a_ (h:=wo_nil (e_ (h:=aft_normal (wc_region (w_ (m_ (h:=w_ (m_ (h:=w_ (ap (h:=w_ (a_ (h:=wo_nil (e_ (h:=blk_normal (aft_normal (wc_region (w_ (b_ (h:=w_ (m_ (h:=wo_nil (e_ (h:=?_)))))))))))))))))))))))))))))))))
  )
 all_goals (refine (l_cat ls hl hs0 1 (by omega) _ ?_).trans (by rw [← lenS_flat,hL]);(simp [normE,hw,hw1,lenS,hcut,hfl];done))
theorem cat_pos (ls : List (List Fr)) (k : Nat) (hl : ls.length < 2000000) (hs0 : lenS ls < 2000000) (hne : 0 < ls.length) (L : List Fr) (hL : ls.flatten = L) : ∀ s,normE 1 (some [6,25,26,27]) s = ⟨[(6,.ref 1 0 0),(25,.lst false 0 (frss false ls)),(26,.int .i64 ls.length),(27,.int .i64 0)],[(1,⟨false,false,6,List.replicate k frZ,0⟩)],2⟩ → oc.loop 52 11 s = some (.exit 2,⟨[(6,.ref 1 0 L.length)],[(1,⟨false,false,6,frs false L,0⟩)],2⟩) := by
 intro s hs
 obtain ⟨c,hx,e1,g1⟩ := frss_cut (t:=false) (l:=ls) (i:=0) hne
 change (frss false ls)[(0 : Int).toNat]? = _ at g1
 have hcut := lenS_cut hx
 have hfl := flat_cut hx
 have hle := lenS_take (l:=ls) (i:=0 + 1)
 have hw : IntKind.i64.wrap (0 + 1) = 1 := by decide
 have hw1 : IntKind.i64.wrap 1 = 1 := by decide
 have hcl : c.length < 2000000 := by omega
 simp [lenS] at hcut hfl
 refine loop_s cd52 rfl rfl hs ?_
 refine wa_ (wc_region (w_ (b_ (h:=wo_nil (e_ (h:=aft_normal (wa_ (?_))))))))
 refine c_ (h1:=?_) (h2:=?_)
 rotate_right 1
 focus
  intro c1
  first
  | exact dn c1
  | (
   have d1 := c1;try simp at d1
   exfalso;rw [decide_eq_false_iff_not] at c1;omega
   )
 rotate_right 1
 focus
  intro c1
  first
  | exact dn c1
  | (
   have d1 := c1;try simp at d1
   refine wc_skip (?_)
   )
 all_goals first
 | refine aft_exit ?_
 | (
  refine aft_normal ?_
  refine wa_ (wc_block (wa_ (wc_region (w_ (x_ (h:=w_ (l_ (h:=w_ (a_ (h:=wo_nil (e_ (h:=aft_normal (wc_region (w_ (m_ (h:=w_ (m_ (h:=w_ (ap (h:=w_ (a_ (h:=wo_nil (e_ (h:=blk_normal (aft_normal (wc_region (w_ (b_ (h:=w_ (m_ (h:=wo_nil (e_ (h:=?_)))))))))))))))))))))))))))))))))
  )
 all_goals (refine (l_cat ls hl hs0 1 (by omega) _ ?_).trans (by rw [← lenS_flat,hL]);(simp [normE,hw,hw1,lenS,hcut,hfl];done))
theorem e_cat (ls : List (List Fr)) (hl : ls.length < 2000000) (hs0 : lenS ls < 2000000) (hne : 0 < ls.length) : oc.call 52 [.lst false 0 (frss false ls)] = some (.lst true 6 (frs false ls.flatten),[]) := by
  obtain ⟨L,hL⟩ : ∃ L,ls.flatten = L := ⟨_,rfl⟩
  rw [hL]
  rcases Nat.eq_zero_or_pos (lenS ls) with hz | hz
  · refine fun_s rfl cd52 rfl rfl rfl (by simp;rfl) (by simp;rfl) ?_
    refine wa_ (wc_region (w_ (aN (h:=wo_nil (e_ (h:=aft_normal (wa_ (wc_region (w_ (a_ (h:=wo_nil (e_ (h:=aft_normal (wa_ (wa_ (wc_region (w_ (m_ (h:=w_ (le (h:=w_ (m_ (h:=wo_nil (e_ (h:=aft_normal (wc_block (?_)))))))))))))))))))))))))))
    refine wc_loop (l_catSz ls hl hs0 0 (by omega) _ (by simp [normE,lenS])) ?_
    refine blk_exit (aft_normal (wa_ (wc_region (w_ (m_ (h:=?_))))))
    first | refine i_ (hc:=(by simp only [hz];exact grow_nil _ _)) (h:=?_)
    refine w_ (a_ (h:=wo_nil (e_ (h:=aft_normal (wa_ (wa_ (wc_region (w_ (m_ (h:=w_ (le (h:=w_ (m_ (h:=wo_nil (e_ (h:=aft_normal (wc_block (?_))))))))))))))))))
    refine wc_loop (cat_nil ls hl hs0 hne L hL _ (by simp [normE])) ?_
    refine blk_exit (aft_normal (wa_ (wc_region (w_ (m_ (h:=w_ (a_ (h:=wo_nil (e_ (h:=aft_normal (wc_ret (?_))))))))))))
    all_goals (refine fin_ (hr:=(res_tmp rfl res_nil)) (h:=?_);(focus (simp)))
  · refine fun_s rfl cd52 rfl rfl rfl (by simp;rfl) (by simp;rfl) ?_
    refine wa_ (wc_region (w_ (aN (h:=wo_nil (e_ (h:=aft_normal (wa_ (wc_region (w_ (a_ (h:=wo_nil (e_ (h:=aft_normal (wa_ (wa_ (wc_region (w_ (m_ (h:=w_ (le (h:=w_ (m_ (h:=wo_nil (e_ (h:=aft_normal (wc_block (?_)))))))))))))))))))))))))))
    refine wc_loop (l_catSz ls hl hs0 0 (by omega) _ (by simp [normE,lenS])) ?_
    refine blk_exit (aft_normal (wa_ (wc_region (w_ (m_ (h:=?_))))))
    first | refine i_ (hc:=grow_pos _ _ (lenS ls : Nat) (by omega) (by omega)) (h:=?_)
    refine w_ (a_ (h:=wo_nil (e_ (h:=aft_normal (wa_ (wa_ (wc_region (w_ (m_ (h:=w_ (le (h:=w_ (m_ (h:=wo_nil (e_ (h:=aft_normal (wc_block (?_))))))))))))))))))
    refine wc_loop (cat_pos ls (lenS ls) hl hs0 hne L hL _ (by simp [normE])) ?_
    refine blk_exit (aft_normal (wa_ (wc_region (w_ (m_ (h:=w_ (a_ (h:=wo_nil (e_ (h:=aft_normal (wc_ret (?_))))))))))))
    all_goals (refine fin_ (hr:=(res_tmp rfl res_nil)) (h:=?_);(focus (simp)))
def idxL (p : List Fr → Bool) (i : Nat) : List (List Fr) → Int
  | [] => -1
  | x :: r => if p x = true then i else idxL p (i + 1) r
theorem idxL_any {p : List Fr → Bool} : ∀ {l : List (List Fr)} {i : Nat},decide (0 ≤ idxL p i l) = l.any p
  | [],i => by simp [idxL]
  | x :: r,i => by
    unfold idxL
    by_cases h : p x = true
    · simp [h]
    · simp only [if_neg h,List.any_cons,idxL_any (l:=r) (i:=i + 1)];simp [h]
theorem l_ix_Links (l : List (List Fr))  (p : List Fr → Bool) (hl : l.length < 2000000) (hc : ∀ x ∈ l,oc.call 50 [.lst false 0 (frs false x)] = some (.bool (p x),[])) : ∀ i : Nat,i ≤ l.length → ∀ s,normE 2 (some [0,1,7,8]) s = ⟨[(0,.lst false 0 (frss false l)),(1,.clo 50 []),(7,.int .i64 l.length),(8,.int .i64 i)],[],2⟩ →
 oc.loop 83 2 s = some (if 0 ≤ idxL p i (l.drop i) then (.ret,⟨[(4,.int .i64 (idxL p i (l.drop i)))],[],2⟩) else (.exit 0,⟨[],[],2⟩)) := by
 refine loop_ind (fun i => l.length - i) _ (fun i => ⟨[(0,.lst false 0 (frss false l)),(1,.clo 50 []),(7,.int .i64 l.length),(8,.int .i64 i)],[],2⟩) _ ?_
 intro i hi ih s hs
 refine loop_s cd83 rfl rfl hs ?_
 refine wa_ (wc_region (w_ (b_ (h:=wo_nil (e_ (h:=aft_normal (wa_ (?_))))))))
 refine c_ (h1:=?_) (h2:=?_)
 rotate_right 1
 focus
  intro c1
  first
  | exact dn c1
  | (
   have d1 := c1;try simp at d1
   refine wc_exit (?_)
   )
 rotate_right 1
 focus
  intro c1
  first
  | exact dn c1
  | (
   have d1 := c1;try simp at d1
   have hw := wrap_succ (i:=i) (by omega);obtain ⟨x,hx,e1,g1⟩ := frss_cut (t:=false) (l:=l) (i:=i) (by omega);have hq := hc x (List.mem_of_getElem? hx)
   refine wc_skip (?_)
   )
 all_goals first
 | refine aft_exit ?_
 | (
  refine aft_normal ?_
  refine wa_ (wc_block (wa_ (wc_region (w_ (m_ (h:=w_ (a_ (h:=wo_nil (e_ (h:=aft_normal (wa_ (wc_region (w_ (m_ (h:=w_ (m_ (h:=w_ (m_ (h:=w_ (x_ (h:=w_ (l_ (h:=w_ (?_))))))))))))))))))))))))
  refine k_callS rfl rfl (by rw [cf_in];rfl) rfl (by rw [cf_md];rfl) (by simp [cf_md,mdT];rfl) (by first | rfl | simp [*]) hq rfl (by simp;rfl) (by simp [cf_md,mdT]) (by simp;rfl) (by simp;rfl) ?_
  refine wo_nil (e_ (h:=aft_normal (?_)))
  refine c_ (h1:=?_) (h2:=?_)
  rotate_right 1
  focus
   intro c2
   first
   | exact dn c2
   | (
    have d2 := c2;try simp at d2
    refine wc_skip (?_)
    )
  rotate_right 1
  focus
   intro c2
   first
   | exact dn c2
   | (
    have d2 := c2;try simp at d2
    refine wa_ (wc_region (w_ (m_ (h:=w_ (a_ (h:=wo_nil (e_ (h:=aft_normal (wc_ret (?_))))))))))
    )
  all_goals first | refine blk_normal ?_ | refine blk_ret ?_
  all_goals first
  | refine aft_ret ?_
  | (
   refine aft_normal ?_
   refine wc_region (w_ (b_ (h:=w_ (m_ (h:=wo_nil (e_ (h:=?_)))))))
   )
  )
 all_goals first
 | (refine (ih (i + 1) (by omega) ?_ _ ?_).trans ?_;(focus (first | omega | (simp;done) | (simp;omega)));(focus (simp [normE,hw];done));(focus (rw [e1];simp only [idxL,if_neg (show ¬ p x = true by simp [d2])])))
 | (apply end_leaf (ex:=Ext.ret) 2 (some [4]);(focus (simp [normE];rfl));(focus (rw [e1];simp [idxL,d2])))
 | (apply end_leaf (ex:=(Ext.exit 0)) 2 (some [4]);(focus (simp [normE];rfl));(focus (rw [List.drop_eq_nil_of_le (by omega)];simp [idxL])))
theorem e_ix_Links (l : List (List Fr))  (p : List Fr → Bool) (hl : l.length < 2000000) (hc : ∀ x ∈ l,oc.call 50 [.lst false 0 (frs false x)] = some (.bool (p x),[])) : oc.call 83 [.lst false 0 (frss false l),.clo 50 []] = some (.int .i64 (if 0 ≤ idxL p 0 l then idxL p 0 l else -1),[]) := by
 refine fun_s rfl cd83 rfl rfl rfl (by simp;rfl) (by simp;rfl) ?_
 refine wa_ (wc_region (w_ (a_ (h:=wo_nil (e_ (h:=aft_normal (wa_ (wa_ (wc_region (w_ (m_ (h:=w_ (le (h:=w_ (m_ (h:=wo_nil (e_ (h:=aft_normal (wc_block (?_))))))))))))))))))))
 refine wc_loopI (l_ix_Links l  p hl hc 0 (by omega) _ (by simp [normE])) ?_ ?_
 rotate_right 1
 focus
  intro c1
  skip
 rotate_right 1
 focus
  intro c1
  skip
 all_goals first | refine blk_ret ?_ | refine blk_exit ?_
 all_goals first
 | refine aft_ret ?_
 | (
  refine aft_normal ?_
  refine wa_ (wc_region (w_ (a_ (h:=wo_nil (e_ (h:=aft_normal (wc_ret (?_))))))))
  )
 all_goals (refine fin_ (hr:=(res_tmp rfl res_nil)) (h:=?_);(focus (clear hc;first | (simp_all;done) | (simp_all <;> omega))))
theorem e_any_Links (l : List (List Fr))  (p : List Fr → Bool) (hl : l.length < 2000000) (hc : ∀ x ∈ l,oc.call 50 [.lst false 0 (frs false x)] = some (.bool (p x),[])) : oc.call 49 [.lst false 0 (frss false l),.clo 50 []] = some (.bool (l.any p),[]) := by
 refine fun_s rfl cd49 rfl rfl rfl (by simp;rfl) (by simp;rfl) ?_
 refine wa_ (wc_region (w_ (a_ (h:=wo_nil (e_ (h:=aft_normal (wa_ (wc_region (w_ (m_ (h:=w_ (m_ (h:=w_ (ca (hc:=e_ix_Links l  p hl hc) (h:=w_ (b_ (h:=w_ (a_ (h:=wo_nil (e_ (h:=aft_normal (wc_ret (?_)))))))))))))))))))))))
 all_goals (refine fin_ (hr:=(res_tmp rfl res_nil)) (h:=?_);(focus (clear hc;rw [← idxL_any (i:=0)];simp;grind)))
@[simp] theorem Fr.ne_und (t : Bool) (x : Fr) : (x.v t = V.und) = False := by simp [Fr.v]
def wksR (pl : List Nd) : List Wk → Int
  | [] => 0
  | w :: r => if wkC pl w = 0 then wksR pl r else wkC pl w
theorem wksR_0 {pl : List Nd} {w : Wk} {r : List Wk} (h : wkC pl w = 0) : wksR pl (w :: r) = wksR pl r := by rw [wksR,if_pos h]
theorem wksR_1 {pl : List Nd} {w : Wk} {r : List Wk} (h : ¬ wkC pl w = 0) : wksR pl (w :: r) = wkC pl w := by rw [wksR,if_neg h]
def frsR (pl : List Nd) : List Fr → Int
  | [] => 0
  | f :: r => if frC pl f = 0 then frsR pl r else frC pl f
theorem frsR_0 {pl : List Nd} {f : Fr} {r : List Fr} (h : frC pl f = 0) : frsR pl (f :: r) = frsR pl r := by rw [frsR,if_pos h]
theorem frsR_1 {pl : List Nd} {f : Fr} {r : List Fr} (h : ¬ frC pl f = 0) : frsR pl (f :: r) = frC pl f := by rw [frsR,if_neg h]
theorem frsR_app {pl : List Nd} {a b : List Fr} : frsR pl (a ++ b) = if frsR pl a = 0 then frsR pl b else frsR pl a := by
  induction a with
  | nil => simp [frsR]
  | cons x r ih =>
    by_cases h : frC pl x = 0
    · rw [List.cons_append,frsR_0 h,frsR_0 h,ih]
    · rw [List.cons_append,frsR_1 h,frsR_1 h,if_neg h]
def manyF (l : List (List Fr)) : Bool := l.any fun x => decide (60 < x.length)
theorem manyF_cons {x : List Fr} {l : List (List Fr)} : manyF (x :: l) = (decide (60 < x.length) || manyF l) := by simp [manyF]
def clC (c : Cl) : Int :=
  if (1 ≤ c.workers.length ∧ c.workers.length ≤ 3) ∧ c.links.length = c.workers.length * c.workers.length ∧ manyF c.links = false then (if wksR c.plan c.workers = 0 then frsR c.plan c.links.flatten else wksR c.plan c.workers) else 2
def clN (c : Cl) : Int := if (lookN c.plan).2 = 0 then clC c else (lookN c.plan).2
theorem sq_in {n : Nat} (h : n ≤ 3) : n * n ≤ 9 := Nat.le_trans (Nat.mul_le_mul h h) (by omega)
theorem sq_pos {n : Nat} (h : 1 ≤ n) : 1 ≤ n * n := Nat.le_trans (by omega) (Nat.mul_le_mul h h)
theorem lenS_w {l : List (List Fr)} : lenS l ≤ w_Frss l := by
  unfold lenS w_Frss
  induction l with
  | nil => simp
  | cons x r ih => have := w_Frs_len (l:=x);simp only [wS_cons,List.length_cons];omega
theorem flat_w {l : List (List Fr)} {f : Fr} (h : f ∈ l.flatten) : w_Fr f ≤ w_Frss l := by
  obtain ⟨x,hx,hf⟩ := List.mem_flatten.1 h
  have h1 := w_Frss_mem hx
  have h2 := w_Frs_mem hf
  omega
theorem e_many (l : List Fr) (h : l.length < 2000000) : oc.call 50 [.lst false 0 (frs false l)] = some (.bool (decide (60 < l.length)),[]) := by
 refine fun_s rfl cd50 rfl rfl rfl (by simp;rfl) (by simp;rfl) ?_
 refine wa_ (wc_region (w_ (a_ (h:=wo_nil (e_ (h:=aft_normal (wa_ (wc_region (w_ (m_ (h:=w_ (le (h:=w_ (b_ (h:=w_ (a_ (h:=wo_nil (e_ (h:=aft_normal (wc_ret (?_)))))))))))))))))))))
 all_goals (refine fin_ (hr:=(res_tmp rfl res_nil)) (h:=?_);(focus (simp;omega)))
theorem l_cl1 (c : Cl) (hp : c.plan.length < 2000000) (hk : okN c.plan) (h0 : (lookN c.plan).2 = 0) (hx : w_Wks c.workers < 2000000) : ∀ i : Nat,(i ≤ c.workers.length) → ∀ s,normE 1 (some [1,3,42,43,44]) s = ⟨[(1,.ptr 1 0 []),(3,.ref 2 0 (widN c.plan).length),(42,.lst false 0 (wks false c.workers)),(43,.int .i64 c.workers.length),(44,.int .i64 i)],[(1,⟨true,false,3,[c.v false],0⟩),(2,⟨false,false,1,ints (widN c.plan),0⟩)],3⟩ →
 oc.loop 23 8 s = some (if wksR c.plan (c.workers.drop i) = 0 then (.exit 0,⟨[(1,.ptr 1 0 []),(3,.ref 2 0 (widN c.plan).length)],[(1,⟨true,false,3,[c.v false],0⟩),(2,⟨false,false,1,ints (widN c.plan),0⟩)],3⟩) else (.ret,⟨[(1,.ptr 1 0 []),(2,.int .i64 (wksR c.plan (c.workers.drop i))),(3,.ref 2 0 (widN c.plan).length)],[(1,⟨true,false,3,[c.v false],0⟩),(2,⟨false,false,1,ints (widN c.plan),0⟩)],3⟩)) := by
 refine loop_ind (σ:=Nat) (fun i => c.workers.length - i) _ (fun i => ⟨[(1,.ptr 1 0 []),(3,.ref 2 0 (widN c.plan).length),(42,.lst false 0 (wks false c.workers)),(43,.int .i64 c.workers.length),(44,.int .i64 i)],[(1,⟨true,false,3,[c.v false],0⟩),(2,⟨false,false,1,ints (widN c.plan),0⟩)],3⟩) _ ?_
 intro i hi ih s hs
 refine loop_s cd23 rfl rfl hs ?_
 have hlen := w_Wks_len (l:=c.workers)
 refine wa_ (wc_region (w_ (b_ (h:=wo_nil (e_ (h:=aft_normal (wa_ (?_))))))))
 refine c_ (h1:=?_) (h2:=?_)
 rotate_right 1
 focus
  intro c1
  first
  | exact dn c1
  | (
   have d1 := c1;try simp at d1
   refine wc_exit (?_)
   )
 rotate_right 1
 focus
  intro c1
  first
  | exact dn c1
  | (
   have d1 := c1;try simp at d1
   have hw := wrap_succ (i:=i) (by omega);obtain ⟨b,hb,e1,g1⟩ := wks_cut (t:=false) (l:=c.workers) (i:=i) (by omega);have hbw := w_Wks_mem (List.mem_of_getElem? hb)
   refine wc_skip (?_)
   )
 all_goals first
 | refine aft_exit ?_
 | (
  refine aft_normal ?_
  refine wa_ (wc_block (wa_ (wc_region (w_ (x_ (h:=w_ (l_ (h:=w_ (al (h:=w0 (s_ (h:=wo_nil (e_ (h:=aft_normal (wa_ (wc_region (w_ (f_ (h:=w_ (l_ (h:=w_ (m_ (h:=w_ (l_ (h:=w_ (ca (hc:=e_wkI2 c.plan b hp hk h0 (by omega)) (h:=w_ (a_ (h:=wo_nil (e_ (h:=aft_normal (wa_ (wc_region (w_ (m_ (h:=w_ (bE (h:=wo_nil (e_ (h:=aft_normal (?_)))))))))))))))))))))))))))))))))))))))))
  refine c_ (h1:=?_) (h2:=?_)
  rotate_right 1
  focus
   intro c2
   first
   | exact dn c2
   | (
    have d2 := c2;try simp at d2
    refine wc_skip (?_)
    )
  rotate_right 1
  focus
   intro c2
   first
   | exact dn c2
   | (
    have d2 := c2;try simp at d2
    refine wa_ (wc_region (w_ (m_ (h:=w_ (a_ (h:=wo_nil (e_ (h:=aft_normal (wc_ret (?_))))))))))
    )
  all_goals first | refine blk_normal ?_ | refine blk_ret ?_
  all_goals first
  | refine aft_ret ?_
  | (
   refine aft_normal ?_
   refine wc_region (w_ (b_ (h:=w_ (m_ (h:=wo_nil (e_ (h:=?_)))))))
   )
  )
 all_goals first
 | (refine (ih (i + 1) (by omega) ?_ _ ?_).trans ?_;(focus (first | omega | (simp;done) | (simp;omega)));(focus (simp [normE,hw];done));(focus (rw [e1,wksR_0 d2])))
 | (apply end_leaf (ex:=Ext.ret) 1 (some [1,2,3]);(focus (simp [normE];rfl));(focus (rw [e1,wksR_1 d2];simp [d2])))
 | (apply end_leaf (ex:=(Ext.exit 0)) 1 (some [1,2,3]);(focus (simp [normE];rfl));(focus (rw [List.drop_eq_nil_of_le (by omega)];simp [wksR])))
theorem l_cl2 (c : Cl) (L : List Fr) (hp : c.plan.length < 2000000) (hk : okN c.plan) (h0 : (lookN c.plan).2 = 0) (hL : L.length < 2000000) (hx : ∀ f ∈ L,w_Fr f < 2000000) : ∀ i : Nat,(i ≤ L.length) → ∀ s,normE 1 (some [1,3,59,60,61]) s = ⟨[(1,.ptr 1 0 []),(3,.ref 2 0 (widN c.plan).length),(59,.ref 3 0 L.length),(60,.int .i64 L.length),(61,.int .i64 i)],[(1,⟨true,false,3,[c.v false],0⟩),(2,⟨false,false,1,ints (widN c.plan),0⟩),(3,⟨false,false,6,frs false L,0⟩)],4⟩ →
 oc.loop 23 15 s = some (if frsR c.plan (L.drop i) = 0 then (.exit 2,⟨[],[],1⟩) else (.ret,⟨[(2,.int .i64 (frsR c.plan (L.drop i)))],[],1⟩)) := by
 refine loop_ind (σ:=Nat) (fun i => L.length - i) _ (fun i => ⟨[(1,.ptr 1 0 []),(3,.ref 2 0 (widN c.plan).length),(59,.ref 3 0 L.length),(60,.int .i64 L.length),(61,.int .i64 i)],[(1,⟨true,false,3,[c.v false],0⟩),(2,⟨false,false,1,ints (widN c.plan),0⟩),(3,⟨false,false,6,frs false L,0⟩)],4⟩) _ ?_
 intro i hi ih s hs
 refine loop_s cd23 rfl rfl hs ?_
 refine wa_ (wc_region (w_ (b_ (h:=wo_nil (e_ (h:=aft_normal (wa_ (?_))))))))
 refine c_ (h1:=?_) (h2:=?_)
 rotate_right 1
 focus
  intro c1
  first
  | exact dn c1
  | (
   have d1 := c1;try simp at d1
   refine wc_exit (?_)
   )
 rotate_right 1
 focus
  intro c1
  first
  | exact dn c1
  | (
   have d1 := c1;try simp at d1
   have hw := wrap_succ (i:=i) (by omega);obtain ⟨b,hb,e1,g1⟩ := frs_cut (t:=false) (l:=L) (i:=i) (by omega);have hbw := hx b (List.mem_of_getElem? hb)
   refine wc_skip (?_)
   )
 all_goals first
 | refine aft_exit ?_
 | (
  refine aft_normal ?_
  refine wa_ (wc_block (wa_ (wc_region (w_ (x_ (h:=w_ (l_ (h:=w_ (al (h:=w0 (s_ (h:=wo_nil (e_ (h:=aft_normal (wa_ (wc_region (w_ (f_ (h:=w_ (l_ (h:=w_ (m_ (h:=w_ (l_ (h:=w_ (ca (hc:=e_frI2 c.plan b hp hk h0 hbw) (h:=w_ (a_ (h:=wo_nil (e_ (h:=aft_normal (wa_ (wc_region (w_ (m_ (h:=w_ (bE (h:=wo_nil (e_ (h:=aft_normal (?_)))))))))))))))))))))))))))))))))))))))))
  refine c_ (h1:=?_) (h2:=?_)
  rotate_right 1
  focus
   intro c2
   first
   | exact dn c2
   | (
    have d2 := c2;try simp at d2
    refine wc_skip (?_)
    )
  rotate_right 1
  focus
   intro c2
   first
   | exact dn c2
   | (
    have d2 := c2;try simp at d2
    refine wa_ (wc_region (w_ (m_ (h:=w_ (a_ (h:=wo_nil (e_ (h:=aft_normal (wc_ret (?_))))))))))
    )
  all_goals first | refine blk_normal ?_ | refine blk_ret ?_
  all_goals first
  | refine aft_ret ?_
  | (
   refine aft_normal ?_
   refine wc_region (w_ (b_ (h:=w_ (m_ (h:=wo_nil (e_ (h:=?_)))))))
   )
  )
 all_goals first
 | (refine (ih (i + 1) (by omega) ?_ _ ?_).trans ?_;(focus (first | omega | (simp;done) | (simp;omega)));(focus (simp [normE,hw];done));(focus (rw [e1,frsR_0 d2])))
 | (apply end_leaf (ex:=Ext.ret) 1 (some [2]);(focus (simp [normE];rfl));(focus (rw [e1,frsR_1 d2];simp [d2])))
 | (apply end_leaf (ex:=(Ext.exit 2)) 1 (some [2]);(focus (simp [normE];rfl));(focus (rw [List.drop_eq_nil_of_le (by omega)];simp [frsR])))
theorem e_clI (c : Cl) (hp : c.plan.length < 2000000) (hk : okN c.plan) (hx : w_Wks c.workers < 2000000) (hy : w_Frss c.links < 2000000) : oc.call 23 [c.v false] = some (.int .i64 (clN c),[]) := by
 refine fun_s rfl cd23 rfl rfl rfl (by simp;rfl) (by simp;rfl) ?_
 have hl1 := w_Wks_len (l:=c.workers)
 have hl2 := w_Frss_len (l:=c.links)
 have hl3 := lenS_w (l:=c.links)
 have hl4 := lenS_flat (l:=c.links)
 have hl5 : ∀ f ∈ c.links.flatten,w_Fr f < 2000000 := fun f hf => by have := flat_w hf;omega
 have hsq : c.workers.length ≤ 3 → IntKind.i64.wrap ((c.workers.length : Int) * c.workers.length) = ((c.workers.length * c.workers.length : Nat) : Int) := fun h => by have := sq_in h;rw [wrap_id (by push_cast at *;omega) (by push_cast at *;omega)];push_cast;rfl
 refine wa_ (wc_region (w_ (bx (h:=w_ (a_ (h:=wo_nil (e_ (h:=aft_normal (wa_ (wc_region (w_ (f_ (h:=w_ (l_ (h:=w_ (ca (hc:=e_looked c.plan hp hk) (h:=w_ (m_ (h:=w_ (ex (h:=w_ (ex (h:=w_ (a_ (h:=w_ (a_ (h:=wo_nil (e_ (h:=aft_normal (wa_ (wa_ (wc_region (w_ (m_ (h:=w_ (bE (h:=wo_nil (e_ (h:=aft_normal (?_))))))))))))))))))))))))))))))))))))))))
 refine c_ (h1:=?_) (h2:=?_)
 rotate_right 1
 focus
  intro c1
  first
  | exact dn c1
  | (
   have d1 := c1;try simp at d1
   refine wc_skip (?_)
   )
 rotate_right 1
 focus
  intro c1
  first
  | exact dn c1
  | (
   have d1 := c1;try simp at d1
   refine wa_ (wc_region (w_ (m_ (h:=w_ (a_ (h:=wo_nil (e_ (h:=aft_normal (wc_ret (?_))))))))))
   )
 all_goals first
 | refine aft_ret ?_
 | (
  refine aft_normal ?_
  refine wa_ (wc_region (w_ (f_ (h:=w_ (l_ (h:=w_ (le (h:=w_ (a_ (h:=wo_nil (e_ (h:=aft_normal (wa_ (wa_ (wc_region (w_ (m_ (h:=w_ (ca (hc:=e_in _ _ _) (h:=w_ (u_ (h:=w_ (m_ (h:=?_))))))))))))))))))))))))
  refine gw_ (h1:=?_) (h2:=?_)
  rotate_right 1
  focus
   intro c2
   first
   | exact dn c2
   | (
    have d2 := c2;try simp at d2
    refine go_ (h:=go_ (h:=go_ (h:=go_ (h:=go_ (h:=go_ (h:=go_ (h:=?_)))))))
    )
  rotate_right 1
  focus
   intro c2
   first
   | exact dn c2
   | (
    have d2 := c2;try simp at d2
    refine g_ (h:=w_ (f_ (h:=g_ (h:=w_ (l_ (h:=g_ (h:=w_ (le (h:=g_ (h:=w_ (m_ (h:=g_ (h:=w_ (m_ (h:=g_ (h:=w_ (b_ (h:=g_ (h:=w_ (bE (h:=?_)))))))))))))))))))))
    )
  all_goals
   refine w_ (pk (h:=w_ (m_ (h:=?_))))
   refine gw_ (h1:=?_) (h2:=?_)
   rotate_right 1
   focus
    intro c3
    first
    | exact dn c3
    | (
     have d3 := c3;try simp at d3
     refine go_ (h:=go_ (h:=go_ (h:=?_)))
     )
   rotate_right 1
   focus
    intro c3
    first
    | exact dn c3
    | (
     have d3 := c3;try simp at d3
     refine g_ (h:=w_ (f_ (h:=g_ (h:=w_ (l_ (h:=g_ (h:=w_ (ca (hc:=e_any_Links c.links (fun x => decide (60 < x.length)) (by omega) (fun x hx => e_many x (by have := w_Frss_mem hx;have := w_Frs_len (l:=x);omega))) (h:=?_)))))))))
     )
   all_goals
    refine w_ (pk (h:=wo_nil (e_ (h:=?_))))
  all_goals first
  | (
   refine aft_normal ?_
   refine c_ (h1:=?_) (h2:=?_)
   rotate_right 1
   focus
    intro c4
    first
    | exact dn c4
    | (
     have d4 := c4;try simp at d4
     have hm3 : 1 ≤ c.workers.length ∧ c.workers.length ≤ 3 := (by simp [inI] at d2;omega);have hsq2 := hsq hm3.2;have hnn := sq_pos hm3.1;have hll : c.links.length = c.workers.length * c.workers.length := (by rw [hsq2] at d3;exact_mod_cast d3);have hne : 0 < c.links.length := (by omega);have hmf : manyF c.links = false := (by simp only [manyF];simpa using d4)
     refine wc_skip (?_)
     )
   rotate_right 1
   focus
    intro c4
    first
    | exact dn c4
    | (
     have d4 := c4;try simp at d4
     have hbad : ¬ ((1 ≤ c.workers.length ∧ c.workers.length ≤ 3) ∧ c.links.length = c.workers.length * c.workers.length ∧ manyF c.links = false) := (by rintro ⟨ha,hb,hc⟩;have hsq2 := hsq ha.2;first | (simp [inI] at d2;omega) | (rw [hsq2,hb] at d3;simp at d3;done) | (simp [manyF] at hc d4;obtain ⟨x,hx1,hx2⟩ := d4;have := hc x hx1;omega))
     refine wa_ (wc_region (w_ (a_ (h:=wo_nil (e_ (h:=aft_normal (wc_ret (?_))))))))
     )
   )
  all_goals first
  | refine aft_ret ?_
  | (
   refine aft_normal ?_
   refine wa_ (wa_ (wc_region (w_ (f_ (h:=w_ (l_ (h:=w_ (le (h:=w_ (m_ (h:=wo_nil (e_ (h:=aft_normal (wc_block (?_)))))))))))))))
   refine wc_loopI (l_cl1 c hp hk d1 hx 0 (by omega) _ (by simp [normE,widN])) ?_ ?_
   rotate_right 1
   focus
    intro c5
    first
    | exact dn c5
    | (
     have d5 := c5;try simp at d5
     skip
     )
   rotate_right 1
   focus
    intro c5
    first
    | exact dn c5
    | (
     have d5 := c5;try simp at d5
     skip
     )
   all_goals first | refine blk_ret ?_ | refine blk_exit ?_
   all_goals first
   | refine aft_ret ?_
   | (
    refine aft_normal ?_
    refine wa_ (wa_ (wc_region (w_ (f_ (h:=w_ (l_ (h:=w_ (ca (hc:=e_cat c.links (by omega) (by omega) hne) (h:=w_ (le (h:=w_ (m_ (h:=wo_nil (e_ (h:=aft_normal (wc_block (?_)))))))))))))))))
    refine wc_loopI (l_cl2 c c.links.flatten hp hk d1 (by omega) hl5 0 (by omega) _ (by simp [normE,widN])) ?_ ?_
    rotate_right 1
    focus
     intro c6
     first
     | exact dn c6
     | (
      have d6 := c6;try simp at d6
      skip
      )
    rotate_right 1
    focus
     intro c6
     first
     | exact dn c6
     | (
      have d6 := c6;try simp at d6
      skip
      )
    all_goals first | refine blk_ret ?_ | refine blk_exit ?_
    all_goals first
    | refine aft_ret ?_
    | (
     refine aft_normal ?_
     refine wa_ (wc_region (w_ (a_ (h:=wo_nil (e_ (h:=aft_normal (wc_ret (?_))))))))
     )
    )
   )
  )
 all_goals (refine fin_ (hr:=(res_tmp rfl res_nil)) (h:=?_);(focus (clear hk hx hy hl5;first | (simp [clN,clC,hbad, *];done) | (simp only [clN,clC,if_pos (And.intro hm3 (And.intro hll hmf))];simp at *;simp [*];done) | (simp [clN, *];done))))
theorem l_clS1 (c : Cl) (m : Int) (hx : w_Frss c.links < 2000000) : ∀ i : Nat,(i ≤ c.links.length) → ∀ s,normE 1 (some [1,4,5]) s = ⟨[(1,.ptr 1 0 []),(4,.int .i64 m),(5,.int .i64 i)],[(1,⟨true,false,3,[c.v false],0⟩)],2⟩ →
 oc.loop 19 8 s = some (if manyF (c.links.drop i) = true then (.ret,⟨[(1,.ptr 1 0 []),(2,.int .i64 2),(4,.int .i64 m)],[(1,⟨true,false,3,[c.v false],0⟩)],2⟩) else (.exit 0,⟨[(1,.ptr 1 0 []),(4,.int .i64 m)],[(1,⟨true,false,3,[c.v false],0⟩)],2⟩)) := by
 refine loop_ind (σ:=Nat) (fun i => c.links.length - i) _ (fun i => ⟨[(1,.ptr 1 0 []),(4,.int .i64 m),(5,.int .i64 i)],[(1,⟨true,false,3,[c.v false],0⟩)],2⟩) _ ?_
 intro i hi ih s hs
 refine loop_s cd19 rfl rfl hs ?_
 have hlen := w_Frss_len (l:=c.links)
 refine wa_ (wa_ (wc_region (w_ (m_ (h:=w_ (f_ (h:=w_ (l_ (h:=w_ (le (h:=w_ (b_ (h:=wo_nil (e_ (h:=aft_normal (?_))))))))))))))))
 refine c_ (h1:=?_) (h2:=?_)
 rotate_right 1
 focus
  intro c1
  first
  | exact dn c1
  | (
   have d1 := c1;try simp at d1
   refine wc_exit (?_)
   )
 rotate_right 1
 focus
  intro c1
  first
  | exact dn c1
  | (
   have d1 := c1;try simp at d1
   have hw := wrap_succ (i:=i) (by omega);obtain ⟨b,hb,e1,g1⟩ := frss_cut (t:=false) (l:=c.links) (i:=i) (by omega)
   refine wc_skip (?_)
   )
 all_goals first
 | refine aft_exit ?_
 | (
  refine aft_normal ?_
  refine wa_ (wc_block (wa_ (wc_region (w_ (f_ (h:=w_ (l_ (h:=w_ (m_ (h:=w_ (x_ (h:=w_ (l_ (h:=w_ (le (h:=w_ (b_ (h:=wo_nil (e_ (h:=aft_normal (?_)))))))))))))))))))))
  refine c_ (h1:=?_) (h2:=?_)
  rotate_right 1
  focus
   intro c2
   first
   | exact dn c2
   | (
    have d2 := c2;try simp at d2
    refine wc_skip (?_)
    )
  rotate_right 1
  focus
   intro c2
   first
   | exact dn c2
   | (
    have d2 := c2;try simp at d2
    refine wa_ (wc_region (w_ (a_ (h:=wo_nil (e_ (h:=aft_normal (wc_ret (?_))))))))
    )
  all_goals first | refine blk_normal ?_ | refine blk_ret ?_
  all_goals first
  | refine aft_ret ?_
  | (
   refine aft_normal ?_
   refine wc_region (w_ (m_ (h:=w_ (b_ (h:=w_ (a_ (h:=wo_nil (e_ (h:=?_)))))))))
   )
  )
 all_goals first
 | (refine (ih (i + 1) (by omega) ?_ _ ?_).trans ?_;(focus (first | omega | (simp;done) | (simp;omega)));(focus (simp [normE,hw];done));(focus (rw [e1,manyF_cons,decide_eq_false (by omega)];simp)))
 | (apply end_leaf (ex:=Ext.ret) 1 (some [1,2,4]);(focus (simp [normE];rfl));(focus (rw [e1,manyF_cons,decide_eq_true (by omega)];simp)))
 | (apply end_leaf (ex:=(Ext.exit 0)) 1 (some [1,2,4]);(focus (simp [normE];rfl));(focus (rw [List.drop_eq_nil_of_le (by omega)];simp [manyF])))
theorem l_clS2 (c : Cl) (hp : c.plan.length < 2000000) (hk : okN c.plan) (h0 : (lookN c.plan).2 = 0) (hx : w_Wks c.workers < 2000000) : ∀ i : Nat,(i ≤ c.workers.length) → ∀ s,normE 1 (some [1,4,6]) s = ⟨[(1,.ptr 1 0 []),(4,.int .i64 c.workers.length),(6,.int .i64 i)],[(1,⟨true,false,3,[c.v false],0⟩)],2⟩ →
 oc.loop 19 13 s = some (if wksR c.plan (c.workers.drop i) = 0 then (.exit 2,⟨[(1,.ptr 1 0 [])],[(1,⟨true,false,3,[c.v false],0⟩)],2⟩) else (.ret,⟨[(1,.ptr 1 0 []),(2,.int .i64 (wksR c.plan (c.workers.drop i)))],[(1,⟨true,false,3,[c.v false],0⟩)],2⟩)) := by
 refine loop_ind (σ:=Nat) (fun i => c.workers.length - i) _ (fun i => ⟨[(1,.ptr 1 0 []),(4,.int .i64 c.workers.length),(6,.int .i64 i)],[(1,⟨true,false,3,[c.v false],0⟩)],2⟩) _ ?_
 intro i hi ih s hs
 refine loop_s cd19 rfl rfl hs ?_
 have hlen := w_Wks_len (l:=c.workers)
 refine wa_ (wa_ (wc_region (w_ (m_ (h:=w_ (m_ (h:=w_ (b_ (h:=wo_nil (e_ (h:=aft_normal (?_))))))))))))
 refine c_ (h1:=?_) (h2:=?_)
 rotate_right 1
 focus
  intro c1
  first
  | exact dn c1
  | (
   have d1 := c1;try simp at d1
   refine wc_exit (?_)
   )
 rotate_right 1
 focus
  intro c1
  first
  | exact dn c1
  | (
   have d1 := c1;try simp at d1
   have hw := wrap_succ (i:=i) (by omega);obtain ⟨b,hb,e1,g1⟩ := wks_cut (t:=false) (l:=c.workers) (i:=i) (by omega);have hbw := w_Wks_mem (List.mem_of_getElem? hb);have hwk : wkN c.plan b = wkC c.plan b := (by unfold wkN;rw [if_pos h0])
   refine wc_skip (?_)
   )
 all_goals first
 | refine aft_exit ?_
 | (
  refine aft_normal ?_
  refine wa_ (wc_block (wa_ (wc_draw (y_ (f_ (h:=ax_ (h:=y_ (l_ (h:=ax_ (h:=y_ (f_ (h:=ax_ (h:=y_ (l_ (h:=ax_ (h:=y_ (m_ (h:=ax_ (h:=y_ (x_ (h:=ax_ (h:=y_ (l_ (h:=ax_ (h:=y_ (ca (hc:=hwk ▸ e_workS c.plan b hp hk (by omega)) (h:=ax_ (h:=y_ (a_ (h:=ax_ (h:=wo_nil (ed (h:=aft_normal (wa_ (wc_region (w_ (m_ (h:=w_ (bE (h:=wo_nil (e_ (h:=aft_normal (?_)))))))))))))))))))))))))))))))))))))))))))
  refine c_ (h1:=?_) (h2:=?_)
  rotate_right 1
  focus
   intro c2
   first
   | exact dn c2
   | (
    have d2 := c2;try simp at d2
    refine wc_skip (?_)
    )
  rotate_right 1
  focus
   intro c2
   first
   | exact dn c2
   | (
    have d2 := c2;try simp at d2
    refine wa_ (wc_region (w_ (m_ (h:=w_ (a_ (h:=wo_nil (e_ (h:=aft_normal (wc_ret (?_))))))))))
    )
  all_goals first | refine blk_normal ?_ | refine blk_ret ?_
  all_goals first
  | refine aft_ret ?_
  | (
   refine aft_normal ?_
   refine wc_region (w_ (m_ (h:=w_ (b_ (h:=w_ (a_ (h:=wo_nil (e_ (h:=?_)))))))))
   )
  )
 all_goals first
 | (refine (ih (i + 1) (by omega) ?_ _ ?_).trans ?_;(focus (first | omega | (simp;done) | (simp;omega)));(focus (simp [normE,hw];done));(focus (rw [e1,wksR_0 d2])))
 | (apply end_leaf (ex:=Ext.ret) 1 (some [1,2]);(focus (simp [normE];rfl));(focus (rw [e1,wksR_1 d2];simp [d2])))
 | (apply end_leaf (ex:=(Ext.exit 2)) 1 (some [1,2]);(focus (simp [normE];rfl));(focus (rw [List.drop_eq_nil_of_le (by omega)];simp [wksR])))
theorem l_clS4 (c : Cl) (k : Nat) (l : List Fr) (hl : c.links[k]? = some l) (hlg : (frss false c.links)[(k : Int).toNat]? = some (.lst false 0 (frs false l))) (hp : c.plan.length < 2000000) (hk : okN c.plan) (h0 : (lookN c.plan).2 = 0) (hx : w_Frs l < 2000000) : ∀ i : Nat,(i ≤ l.length) → ∀ s,normE 1 (some [1,8,9]) s = ⟨[(1,.ptr 1 0 []),(8,.int .i64 k),(9,.int .i64 i)],[(1,⟨true,false,3,[c.v false],0⟩)],2⟩ →
 oc.loop 19 22 s = some (if frsR c.plan (l.drop i) = 0 then (.exit 6,⟨[(1,.ptr 1 0 []),(8,.int .i64 k)],[(1,⟨true,false,3,[c.v false],0⟩)],2⟩) else (.ret,⟨[(1,.ptr 1 0 []),(2,.int .i64 (frsR c.plan (l.drop i))),(8,.int .i64 k)],[(1,⟨true,false,3,[c.v false],0⟩)],2⟩)) := by
 refine loop_ind (σ:=Nat) (fun i => l.length - i) _ (fun i => ⟨[(1,.ptr 1 0 []),(8,.int .i64 k),(9,.int .i64 i)],[(1,⟨true,false,3,[c.v false],0⟩)],2⟩) _ ?_
 intro i hi ih s hs
 refine loop_s cd19 rfl rfl hs ?_
 have hlen := w_Frs_len (l:=l)
 refine wa_ (wa_ (wc_region (w_ (m_ (h:=w_ (f_ (h:=w_ (l_ (h:=w_ (m_ (h:=w_ (x_ (h:=w_ (l_ (h:=w_ (le (h:=w_ (b_ (h:=wo_nil (e_ (h:=aft_normal (?_))))))))))))))))))))))
 refine c_ (h1:=?_) (h2:=?_)
 rotate_right 1
 focus
  intro c1
  first
  | exact dn c1
  | (
   have d1 := c1;try simp at d1
   refine wc_exit (?_)
   )
 rotate_right 1
 focus
  intro c1
  first
  | exact dn c1
  | (
   have d1 := c1;try simp at d1
   have hw := wrap_succ (i:=i) (by omega);obtain ⟨b,hb,e1,g1⟩ := frs_cut (t:=false) (l:=l) (i:=i) (by omega);have hbw := w_Frs_mem (List.mem_of_getElem? hb);have hfr : frN0 c.plan b = frC c.plan b := (by unfold frN0;rw [if_pos h0])
   refine wc_skip (?_)
   )
 all_goals first
 | refine aft_exit ?_
 | (
  refine aft_normal ?_
  refine wa_ (wc_block (wa_ (wc_draw (y_ (f_ (h:=ax_ (h:=y_ (l_ (h:=ax_ (h:=y_ (f_ (h:=ax_ (h:=y_ (l_ (h:=ax_ (h:=y_ (m_ (h:=ax_ (h:=y_ (x_ (h:=ax_ (h:=y_ (l_ (h:=ax_ (h:=y_ (m_ (h:=ax_ (h:=y_ (x_ (h:=ax_ (h:=y_ (l_ (h:=ax_ (h:=y_ (ca (hc:=hfr ▸ e_frameS c.plan b hp hk (by omega)) (h:=ax_ (h:=y_ (a_ (h:=ax_ (h:=wo_nil (ed (h:=aft_normal (wa_ (wc_region (w_ (m_ (h:=w_ (bE (h:=wo_nil (e_ (h:=aft_normal (?_))))))))))))))))))))))))))))))))))))))))))))))))))))
  refine c_ (h1:=?_) (h2:=?_)
  rotate_right 1
  focus
   intro c2
   first
   | exact dn c2
   | (
    have d2 := c2;try simp at d2
    refine wc_skip (?_)
    )
  rotate_right 1
  focus
   intro c2
   first
   | exact dn c2
   | (
    have d2 := c2;try simp at d2
    refine wa_ (wc_region (w_ (m_ (h:=w_ (a_ (h:=wo_nil (e_ (h:=aft_normal (wc_ret (?_))))))))))
    )
  all_goals first | refine blk_normal ?_ | refine blk_ret ?_
  all_goals first
  | refine aft_ret ?_
  | (
   refine aft_normal ?_
   refine wc_region (w_ (m_ (h:=w_ (b_ (h:=w_ (a_ (h:=wo_nil (e_ (h:=?_)))))))))
   )
  )
 all_goals first
 | (refine (ih (i + 1) (by omega) ?_ _ ?_).trans ?_;(focus (first | omega | (simp;done) | (simp;omega)));(focus (simp [normE,hw];done));(focus (rw [e1,frsR_0 d2])))
 | (apply end_leaf (ex:=Ext.ret) 1 (some [1,2,8]);(focus (simp [normE];rfl));(focus (rw [e1,frsR_1 d2];simp [d2])))
 | (apply end_leaf (ex:=(Ext.exit 6)) 1 (some [1,2,8]);(focus (simp [normE];rfl));(focus (rw [List.drop_eq_nil_of_le (by omega)];simp [frsR])))
theorem l_clS3 (c : Cl) (hp : c.plan.length < 2000000) (hk : okN c.plan) (h0 : (lookN c.plan).2 = 0) (hx : w_Frss c.links < 2000000) : ∀ i : Nat,(i ≤ c.links.length) → ∀ s,normE 1 (some [1,8]) s = ⟨[(1,.ptr 1 0 []),(8,.int .i64 i)],[(1,⟨true,false,3,[c.v false],0⟩)],2⟩ →
 oc.loop 19 19 s = some (if frsR c.plan (c.links.drop i).flatten = 0 then (.exit 4,⟨[],[],1⟩) else (.ret,⟨[(2,.int .i64 (frsR c.plan (c.links.drop i).flatten))],[],1⟩)) := by
 refine loop_ind (σ:=Nat) (fun i => c.links.length - i) _ (fun i => ⟨[(1,.ptr 1 0 []),(8,.int .i64 i)],[(1,⟨true,false,3,[c.v false],0⟩)],2⟩) _ ?_
 intro i hi ih s hs
 refine loop_s cd19 rfl rfl hs ?_
 have hlen := w_Frss_len (l:=c.links)
 refine wa_ (wa_ (wc_region (w_ (m_ (h:=w_ (f_ (h:=w_ (l_ (h:=w_ (le (h:=w_ (b_ (h:=wo_nil (e_ (h:=aft_normal (?_))))))))))))))))
 refine c_ (h1:=?_) (h2:=?_)
 rotate_right 1
 focus
  intro c1
  first
  | exact dn c1
  | (
   have d1 := c1;try simp at d1
   refine wc_exit (?_)
   )
 rotate_right 1
 focus
  intro c1
  first
  | exact dn c1
  | (
   have d1 := c1;try simp at d1
   have hw := wrap_succ (i:=i) (by omega);obtain ⟨b,hb,e1,g1⟩ := frss_cut (t:=false) (l:=c.links) (i:=i) (by omega);have hbw := w_Frss_mem (List.mem_of_getElem? hb);have hfa : frsR c.plan (c.links.drop i).flatten = if frsR c.plan b = 0 then frsR c.plan (c.links.drop (i + 1)).flatten else frsR c.plan b := (by rw [e1,List.flatten_cons,frsR_app])
   refine wc_skip (?_)
   )
 all_goals first
 | refine aft_exit ?_
 | (
  refine aft_normal ?_
  refine wa_ (wc_block (wa_ (wc_region (w_ (a_ (h:=wo_nil (e_ (h:=aft_normal (wc_block (?_))))))))))
  refine wc_loopI (l_clS4 c i b hb g1 hp hk h0 (by omega) 0 (by omega) _ (by simp [normE])) ?_ ?_
  rotate_right 1
  focus
   intro c2
   first
   | exact dn c2
   | (
    have d2 := c2;try simp at d2
    skip
    )
  rotate_right 1
  focus
   intro c2
   first
   | exact dn c2
   | (
    have d2 := c2;try simp at d2
    skip
    )
  all_goals first | refine blk_ret ?_ | refine blk_exit ?_
  all_goals first | refine blk_normal ?_ | refine blk_ret ?_
  all_goals first
  | refine aft_ret ?_
  | (
   refine aft_normal ?_
   refine wc_region (w_ (m_ (h:=w_ (b_ (h:=w_ (a_ (h:=wo_nil (e_ (h:=?_)))))))))
   )
  )
 all_goals first
 | (refine (ih (i + 1) (by omega) ?_ _ ?_).trans ?_;(focus (first | omega | (simp;done) | (simp;omega)));(focus (simp [normE,hw];done));(focus (have hb0 : frsR c.plan b = 0 := (by simpa using d2);rw [hfa,if_pos hb0])))
 | (apply end_leaf (ex:=Ext.ret) 1 (some [2]);(focus (simp [normE];rfl));(focus (have hb0 : ¬ frsR c.plan b = 0 := (by simpa using d2);rw [hfa,if_neg hb0];simp [hb0])))
 | (apply end_leaf (ex:=(Ext.exit 4)) 1 (some [2]);(focus (simp [normE];rfl));(focus (rw [List.drop_eq_nil_of_le (by omega)];simp [frsR])))
theorem e_clS (c : Cl) (hp : c.plan.length < 2000000) (hk : okN c.plan) (hx : w_Wks c.workers < 2000000) (hy : w_Frss c.links < 2000000) : oc.call 19 [c.v false] = some (.int .i64 (clN c),[]) := by
 refine fun_s rfl cd19 rfl rfl rfl (by simp;rfl) (by simp;rfl) ?_
 have hl1 := w_Wks_len (l:=c.workers)
 have hl2 := w_Frss_len (l:=c.links)
 have hsq : c.workers.length ≤ 3 → IntKind.i64.wrap ((c.workers.length : Int) * c.workers.length) = ((c.workers.length * c.workers.length : Nat) : Int) := fun h => by have := sq_in h;rw [wrap_id (by push_cast at *;omega) (by push_cast at *;omega)];push_cast;rfl
 refine wa_ (wc_region (w_ (bx (h:=w_ (a_ (h:=wo_nil (e_ (h:=aft_normal (wa_ (wa_ (wc_region (w_ (f_ (h:=w_ (l_ (h:=w_ (ca (hc:=e_planS c.plan hp hk) (h:=w_ (a_ (h:=wo_nil (e_ (h:=aft_normal (wa_ (wc_region (w_ (m_ (h:=w_ (bE (h:=wo_nil (e_ (h:=aft_normal (?_))))))))))))))))))))))))))))))))
 refine c_ (h1:=?_) (h2:=?_)
 rotate_right 1
 focus
  intro c1
  first
  | exact dn c1
  | (
   have d1 := c1;try simp at d1
   refine wc_skip (?_)
   )
 rotate_right 1
 focus
  intro c1
  first
  | exact dn c1
  | (
   have d1 := c1;try simp at d1
   refine wa_ (wc_region (w_ (m_ (h:=w_ (a_ (h:=wo_nil (e_ (h:=aft_normal (wc_ret (?_))))))))))
   )
 all_goals first
 | refine aft_ret ?_
 | (
  refine aft_normal ?_
  refine wa_ (wc_region (w_ (f_ (h:=w_ (l_ (h:=w_ (le (h:=w_ (a_ (h:=wo_nil (e_ (h:=aft_normal (wa_ (wa_ (wc_region (w_ (m_ (h:=w_ (b_ (h:=w_ (m_ (h:=?_))))))))))))))))))))))
  refine gw_ (h1:=?_) (h2:=?_)
  rotate_right 1
  focus
   intro c2
   first
   | exact dn c2
   | (
    have d2 := c2;try simp at d2
    refine go_ (h:=go_ (h:=?_))
    )
  rotate_right 1
  focus
   intro c2
   first
   | exact dn c2
   | (
    have d2 := c2;try simp at d2
    refine g_ (h:=w_ (m_ (h:=g_ (h:=w_ (b_ (h:=?_))))))
    )
  all_goals
   refine w_ (pk (h:=w_ (m_ (h:=?_))))
   refine gw_ (h1:=?_) (h2:=?_)
   rotate_right 1
   focus
    intro c3
    first
    | exact dn c3
    | (
     have d3 := c3;try simp at d3
     refine go_ (h:=go_ (h:=go_ (h:=go_ (h:=go_ (h:=go_ (h:=go_ (h:=?_)))))))
     )
   rotate_right 1
   focus
    intro c3
    first
    | exact dn c3
    | (
     have d3 := c3;try simp at d3
     refine g_ (h:=w_ (f_ (h:=g_ (h:=w_ (l_ (h:=g_ (h:=w_ (le (h:=g_ (h:=w_ (m_ (h:=g_ (h:=w_ (m_ (h:=g_ (h:=w_ (b_ (h:=g_ (h:=w_ (bE (h:=?_)))))))))))))))))))))
     )
   all_goals
    refine w_ (pk (h:=wo_nil (e_ (h:=?_))))
  all_goals first
  | (
   refine aft_normal ?_
   refine c_ (h1:=?_) (h2:=?_)
   rotate_right 1
   focus
    intro c4
    first
    | exact dn c4
    | (
     have d4 := c4;try simp at d4
     have hm3 : 1 ≤ c.workers.length ∧ c.workers.length ≤ 3 := (by clear d2 d3 d4;simp only [wks_len,decide_eq_true_eq,decide_eq_false_iff_not,Bool.not_true,Bool.not_false] at c2 c3;omega);have hsq2 := hsq hm3.2;have hll : c.links.length = c.workers.length * c.workers.length := (by have q4 := c4;simp only [hsq2,frss_len,wks_len] at q4;simp at q4;exact_mod_cast q4)
     refine wc_skip (?_)
     )
   rotate_right 1
   focus
    intro c4
    first
    | exact dn c4
    | (
     have d4 := c4;try simp at d4
     have hbad : ¬ ((1 ≤ c.workers.length ∧ c.workers.length ≤ 3) ∧ c.links.length = c.workers.length * c.workers.length ∧ manyF c.links = false) := (by rintro ⟨ha,hb,hc⟩;have hsq2 := hsq ha.2;simp only [wks_len,frss_len,hsq2,hb,decide_eq_true_eq,decide_eq_false_iff_not,Bool.not_true,Bool.not_false] at *;first | omega | (simp at c3;omega) | (simp at c4;omega) | simp_all)
     refine wa_ (wc_region (w_ (a_ (h:=wo_nil (e_ (h:=aft_normal (wc_ret (?_))))))))
     )
   )
  all_goals first
  | refine aft_ret ?_
  | (
   refine aft_normal ?_
   refine wa_ (wa_ (wc_region (w_ (a_ (h:=wo_nil (e_ (h:=aft_normal (wc_block (?_)))))))))
   refine wc_loopI (l_clS1 c c.workers.length hy 0 (by omega) _ (by simp [normE])) ?_ ?_
   rotate_right 1
   focus
    intro c5
    first
    | exact dn c5
    | (
     have d5 := c5;try simp at d5
     skip
     )
   rotate_right 1
   focus
    intro c5
    first
    | exact dn c5
    | (
     have d5 := c5;try simp at d5
     skip
     )
   all_goals first | refine blk_ret ?_ | refine blk_exit ?_
   all_goals first
   | refine aft_ret ?_
   | (
    refine aft_normal ?_
    refine wa_ (wa_ (wc_region (w_ (a_ (h:=wo_nil (e_ (h:=aft_normal (wc_block (?_)))))))))
    refine wc_loopI (l_clS2 c hp hk d1 hx 0 (by omega) _ (by simp [normE])) ?_ ?_
    rotate_right 1
    focus
     intro c6
     first
     | exact dn c6
     | (
      have d6 := c6;try simp at d6
      skip
      )
    rotate_right 1
    focus
     intro c6
     first
     | exact dn c6
     | (
      have d6 := c6;try simp at d6
      skip
      )
    all_goals first | refine blk_ret ?_ | refine blk_exit ?_
    all_goals first
    | refine aft_ret ?_
    | (
     refine aft_normal ?_
     refine wa_ (wa_ (wc_region (w_ (a_ (h:=wo_nil (e_ (h:=aft_normal (wc_block (?_)))))))))
     refine wc_loopI (l_clS3 c hp hk d1 hy 0 (by omega) _ (by simp [normE])) ?_ ?_
     rotate_right 1
     focus
      intro c7
      first
      | exact dn c7
      | (
       have d7 := c7;try simp at d7
       skip
       )
     rotate_right 1
     focus
      intro c7
      first
      | exact dn c7
      | (
       have d7 := c7;try simp at d7
       skip
       )
     all_goals first | refine blk_ret ?_ | refine blk_exit ?_
     all_goals first
     | refine aft_ret ?_
     | (
      refine aft_normal ?_
      refine wa_ (wc_region (w_ (a_ (h:=wo_nil (e_ (h:=aft_normal (wc_ret (?_))))))))
      )
     )
    )
   )
  )
 all_goals (refine fin_ (hr:=(res_tmp rfl res_nil)) (h:=?_);(focus (clear hk hx hy;first | (simp [clN,clC,hbad, *];done) | (simp [clN, *];done) | (simp [clN, *];unfold clC;rw [if_neg (by rintro ⟨_,_,h⟩;rw [d5] at h;cases h)];done) | (simp [clN, *];unfold clC;rw [if_pos ⟨hm3,hll,d5⟩,if_pos d6];done) | (simp [clN, *];unfold clC;rw [if_pos ⟨hm3,hll,d5⟩,if_pos d6,d7];done) | (simp [clN, *];unfold clC;rw [if_pos ⟨hm3,hll,d5⟩,if_neg d6];done))))
theorem dFrss {n : Nat} {v : V} (h : hasT Tryz.prog (n + 7) 24 v) : ∃ l,v = .lst false 0 (frss false l) ∧ bg_Frss l := by
  obtain ⟨xs,e,h1,h2⟩ := dec_slice Tryz.underlying24 h
  obtain ⟨l,e2,h3⟩ := dec_list (f:=fun x => .lst false 0 (frs false x)) (p:=bg_Frs) (fun x hx => dFrs (h2 x hx))
  exact ⟨l,by rw [e,e2];rfl,by rw [e2] at h1;simpa using h1,h3⟩
theorem dCl {n : Nat} {v : V} (h : hasT Tryz.prog (n + 11) 26 v) : ∃ d : Cl,v = d.v false ∧ bg_Cl d := by
  obtain ⟨xs,e,x0,q0,rfl,t0,x1,q1,rfl,t1,x2,q2,rfl,t2,hq⟩ := dec_struct Tryz.underlying26 h
  obtain ⟨a0,rfl,b0⟩ := dNodes t0
  obtain ⟨a1,rfl,b1⟩ := dWks t1
  obtain ⟨a2,rfl,b2⟩ := dFrss t2
  simp only [List.map_nil,hasL] at hq
  subst hq
  exact ⟨⟨a0,a1,a2⟩,e,⟨b0,b1,b2⟩⟩
end Go.Proofs.YtadaeiahfidodaaGreat.Ev
namespace Go.Proofs.YtadaeiahfidodaaGreat.Ev
open Go
set_option maxRecDepth 100000
set_option linter.unusedSimpArgs false
set_option linter.unusedVariables false
set_option maxHeartbeats 2000000
def inS (l : List Wk) : Nat := wS (fun w => w.inbox.length) l
theorem inS_cut {l : List Wk} {i : Nat} {x : Wk} (h : l[i]? = some x) : inS (l.take (i + 1)) = inS (l.take i) + x.inbox.length := wS_cutL (f:=fun w : Wk => w.inbox.length) h
theorem inS_take {l : List Wk} {i : Nat} : inS (l.take i) ≤ inS l := wS_takeL
theorem inS_w {l : List Wk} : inS l ≤ w_Wks l := by
  unfold inS w_Wks
  induction l with
  | nil => simp
  | cons x r ih => have := w_Frs_len (l:=x.inbox);have h2 : x.inbox.length ≤ w_Wk x := (by unfold w_Wk;omega);simp only [wS_cons,List.length_cons];omega
theorem clN_zero {c : Cl} (h : clN c = 0) : 0 < c.links.length := by
  unfold clN at h
  split at h
  · unfold clC at h
    split at h
    · rename_i h1
      have := sq_pos h1.1.1
      have := h1.2.1
      omega
    · cases h
  · exact absurd h ‹_›
theorem e_sizeF (l : List Fr) (h : l.length < 2000000) : oc.call 55 [.lst false 0 (frs false l)] = some (.int .i64 l.length,[]) := by
 refine fun_s rfl cd55 rfl rfl rfl (by simp;rfl) (by simp;rfl) ?_
 refine wa_ (wc_region (w_ (a_ (h:=wo_nil (e_ (h:=aft_normal (wa_ (wc_region (w_ (m_ (h:=w_ (le (h:=w_ (a_ (h:=wo_nil (e_ (h:=aft_normal (wc_ret (?_)))))))))))))))))))
 all_goals (refine fin_ (hr:=(res_tmp rfl res_nil)) (h:=?_);(focus (first | (simp_all;done) | (simp_all <;> omega) | (simp_all <;> split <;> simp_all <;> omega))))
theorem e_onL (c : Cl) (h1 : c.links.length < 2000000) (h2 : lenS c.links < 2000000) (hne : 0 < c.links.length) : oc.call 54 [.vptr (c.v false)] = some (.int .i64 (lenS c.links : Nat),[]) := by
 refine fun_s rfl cd54 rfl rfl rfl (by simp;rfl) (by simp;rfl) ?_
 obtain ⟨L,hL⟩ : ∃ L,c.links.flatten = L := ⟨_,rfl⟩
 have hc := e_cat c.links h1 h2 hne
 rw [hL] at hc
 have hLl : L.length = lenS c.links := by rw [← hL];exact lenS_flat
 refine wa_ (wc_region (w_ (a_ (h:=wo_nil (e_ (h:=aft_normal (wa_ (wc_region (w_ (m_ (h:=w_ (nc (h:=w_ (f_ (h:=w_ (l_ (h:=w_ (ca (hc:=hc) (h:=w_ (ca (hc:=e_sizeF L (by omega)) (h:=w_ (a_ (h:=wo_nil (e_ (h:=aft_normal (wc_ret (?_)))))))))))))))))))))))))))
 all_goals (refine fin_ (hr:=(res_tmp rfl res_nil)) (h:=?_);(focus (simp [hLl])))
theorem l_inf (c : Cl) (n : Nat) (hx : w_Wks c.workers < 2000000) (hn : n < 2000000) : ∀ i : Nat,(i ≤ c.workers.length) → ∀ s,normE 1 (some [3,11,12,13]) s = ⟨[(3,.int .i64 ((n + inS (c.workers.take i) : Nat) : Int)),(11,.lst false 0 (wks false c.workers)),(12,.int .i64 c.workers.length),(13,.int .i64 i)],[],1⟩ →
 oc.loop 24 3 s = some (.exit 0,⟨[(3,.int .i64 ((n + inS c.workers : Nat) : Int))],[],1⟩) := by
 refine loop_ind (σ:=Nat) (fun i => c.workers.length - i) _ (fun i => ⟨[(3,.int .i64 ((n + inS (c.workers.take i) : Nat) : Int)),(11,.lst false 0 (wks false c.workers)),(12,.int .i64 c.workers.length),(13,.int .i64 i)],[],1⟩) _ ?_
 intro i hi ih s hs
 refine loop_s cd24 rfl rfl hs ?_
 have hlen := w_Wks_len (l:=c.workers)
 refine wa_ (wc_region (w_ (b_ (h:=wo_nil (e_ (h:=aft_normal (wa_ (?_))))))))
 refine c_ (h1:=?_) (h2:=?_)
 rotate_right 1
 focus
  intro c1
  first
  | exact dn c1
  | (
   have d1 := c1;try simp at d1
   refine wc_exit (?_)
   )
 rotate_right 1
 focus
  intro c1
  first
  | exact dn c1
  | (
   have d1 := c1;try simp at d1
   have hw := wrap_succ (i:=i) (by omega);obtain ⟨b,hb,e1,g1⟩ := wks_cut (t:=false) (l:=c.workers) (i:=i) (by omega);have hbw := w_Wks_mem (List.mem_of_getElem? hb);have hcut := inS_cut hb;have hle := inS_take (l:=c.workers) (i:=i + 1);have hin := inS_w (l:=c.workers);have hbi := w_Frs_len (l:=b.inbox);have hb2 : b.inbox.length < 2000000 := (by unfold w_Wk at hbw;omega);have hws : IntKind.i64.wrap (((n + inS (c.workers.take i) : Nat) : Int) + (b.inbox.length : Int)) = ((n + inS (c.workers.take (i + 1)) : Nat) : Int) := (wrap_id (by omega) (by omega)).trans (by omega)
   refine wc_skip (?_)
   )
 all_goals first
 | refine aft_exit ?_
 | (
  refine aft_normal ?_
  refine wa_ (wc_block (wa_ (wc_region (w_ (x_ (h:=w_ (l_ (h:=w_ (al (h:=w0 (s_ (h:=wo_nil (e_ (h:=aft_normal (wc_region (w_ (m_ (h:=w_ (f_ (h:=w_ (l_ (h:=w_ (ca (hc:=e_sizeF b.inbox hb2) (h:=w_ (b_ (h:=w_ (a_ (h:=wo_nil (e_ (h:=blk_normal (aft_normal (wc_region (w_ (b_ (h:=w_ (m_ (h:=wo_nil (e_ (h:=?_)))))))))))))))))))))))))))))))))))))))
  )
 all_goals first
 | ((refine (ih (i + 1) (by omega) ?_ _ ?_).trans ?_;(focus (first | omega | (simp;done)));(focus (simp only [hws];simp [normE,hw];done));(focus rfl)))
 | (apply end_leaf (ex:=(Ext.exit 0)) 1 (some [3]);(focus (simp [normE];rfl));(focus (rw [List.take_of_length_le (by omega)];simp)))
theorem e_infl2 (c : Cl) (h1 : c.links.length < 2000000) (h2 : lenS c.links < 2000000) (hne : 0 < c.links.length) (hx : w_Wks c.workers < 2000000) : oc.call 24 [.vptr (c.v false)] = some (.int .i64 ((lenS c.links + inS c.workers : Nat) : Int),[]) := by
 refine fun_s rfl cd24 rfl rfl rfl (by simp;rfl) (by simp;rfl) ?_
 refine wa_ (wc_region (w_ (a_ (h:=wo_nil (e_ (h:=aft_normal (wa_ (wc_region (w_ (m_ (h:=w_ (ca (hc:=e_onL c h1 h2 hne) (h:=w_ (a_ (h:=wo_nil (e_ (h:=aft_normal (wa_ (wa_ (wc_region (w_ (m_ (h:=w_ (nc (h:=w_ (f_ (h:=w_ (l_ (h:=w_ (le (h:=w_ (m_ (h:=wo_nil (e_ (h:=aft_normal (wc_block (?_)))))))))))))))))))))))))))))))))))))
 refine wc_loop (l_inf c (lenS c.links) hx h2 0 (by omega) _ (by simp [normE,inS])) ?_
 refine blk_exit (aft_normal (wa_ (wc_region (w_ (m_ (h:=w_ (a_ (h:=wo_nil (e_ (h:=aft_normal (wc_ret (?_))))))))))))
 all_goals (refine fin_ (hr:=(res_tmp rfl res_nil)) (h:=?_);(focus (first | (simp_all;done) | (simp_all <;> omega) | (simp_all <;> split <;> simp_all <;> omega))))
def inflN (c : Cl) : Int × Int := if clN c = 0 then (0,((lenS c.links + inS c.workers : Nat) : Int)) else (clN c,0)
theorem l_infS1 (c : Cl) (hx : w_Frss c.links < 2000000) : ∀ i : Nat,(i ≤ c.links.length) → ∀ s,normE 1 (some [1,2,4,5]) s = ⟨[(1,.ptr 1 0 []),(2,.ptr 2 0 []),(4,.int .i64 (lenS (c.links.take i) : Nat)),(5,.int .i64 i)],[(1,⟨true,false,3,[c.v false],0⟩),(2,⟨true,false,2,[.agg [.int .i64 0,.int .i64 0]],0⟩)],3⟩ →
 oc.loop 7 6 s = some (.exit 0,⟨[(1,.ptr 1 0 []),(2,.ptr 2 0 []),(4,.int .i64 (lenS c.links : Nat))],[(1,⟨true,false,3,[c.v false],0⟩),(2,⟨true,false,2,[.agg [.int .i64 0,.int .i64 0]],0⟩)],3⟩) := by
 refine loop_ind (σ:=Nat) (fun i => c.links.length - i) _ (fun i => ⟨[(1,.ptr 1 0 []),(2,.ptr 2 0 []),(4,.int .i64 (lenS (c.links.take i) : Nat)),(5,.int .i64 i)],[(1,⟨true,false,3,[c.v false],0⟩),(2,⟨true,false,2,[.agg [.int .i64 0,.int .i64 0]],0⟩)],3⟩) _ ?_
 intro i hi ih s hs
 refine loop_s cd7 rfl rfl hs ?_
 have hlen := w_Frss_len (l:=c.links)
 have hl3 := lenS_w (l:=c.links)
 refine wa_ (wa_ (wc_region (w_ (m_ (h:=w_ (f_ (h:=w_ (l_ (h:=w_ (le (h:=w_ (b_ (h:=wo_nil (e_ (h:=aft_normal (?_))))))))))))))))
 refine c_ (h1:=?_) (h2:=?_)
 rotate_right 1
 focus
  intro c1
  first
  | exact dn c1
  | (
   have d1 := c1;try simp at d1
   refine wc_exit (?_)
   )
 rotate_right 1
 focus
  intro c1
  first
  | exact dn c1
  | (
   have d1 := c1;try simp at d1
   have hw := wrap_succ (i:=i) (by omega);obtain ⟨b,hb,e1,g1⟩ := frss_cut (t:=false) (l:=c.links) (i:=i) (by omega);have hcut := lenS_cut hb;have hle := lenS_take (l:=c.links) (i:=i + 1);have hws : IntKind.i64.wrap ((lenS (c.links.take i) : Nat) + (b.length : Int)) = (lenS (c.links.take (i + 1)) : Nat) := (wrap_id (by omega) (by omega)).trans (by omega)
   refine wc_skip (?_)
   )
 all_goals first
 | refine aft_exit ?_
 | (
  refine aft_normal ?_
  refine wa_ (wc_block (wc_region (w_ (m_ (h:=w_ (f_ (h:=w_ (l_ (h:=w_ (m_ (h:=w_ (x_ (h:=w_ (l_ (h:=w_ (le (h:=w_ (b_ (h:=w_ (a_ (h:=wo_nil (e_ (h:=blk_normal (aft_normal (wc_region (w_ (m_ (h:=w_ (b_ (h:=w_ (a_ (h:=wo_nil (e_ (h:=?_))))))))))))))))))))))))))))))))))
  )
 all_goals first
 | (refine (ih (i + 1) (by omega) ?_ _ ?_).trans ?_;(focus (first | omega | (simp;done) | (simp;omega)));(focus (simp [normE,hw,hws];done));(focus (rfl)))
 | (apply end_leaf (ex:=(Ext.exit 0)) 1 (some [1,2,4]);(focus (simp [normE];rfl));(focus (rw [List.take_of_length_le (by omega)])))
theorem l_infS2 (c : Cl) (n : Nat) (hx : w_Wks c.workers < 2000000) (hn : n < 2000000) : ∀ i : Nat,(i ≤ c.workers.length) → ∀ s,normE 1 (some [1,2,4,6]) s = ⟨[(1,.ptr 1 0 []),(2,.ptr 2 0 []),(4,.int .i64 ((n + inS (c.workers.take i) : Nat) : Int)),(6,.int .i64 i)],[(1,⟨true,false,3,[c.v false],0⟩),(2,⟨true,false,2,[.agg [.int .i64 0,.int .i64 0]],0⟩)],3⟩ →
 oc.loop 7 10 s = some (.exit 2,⟨[(2,.ptr 1 0 []),(4,.int .i64 ((n + inS c.workers : Nat) : Int))],[(1,⟨true,false,2,[.agg [.int .i64 0,.int .i64 0]],0⟩)],2⟩) := by
 refine loop_ind (σ:=Nat) (fun i => c.workers.length - i) _ (fun i => ⟨[(1,.ptr 1 0 []),(2,.ptr 2 0 []),(4,.int .i64 ((n + inS (c.workers.take i) : Nat) : Int)),(6,.int .i64 i)],[(1,⟨true,false,3,[c.v false],0⟩),(2,⟨true,false,2,[.agg [.int .i64 0,.int .i64 0]],0⟩)],3⟩) _ ?_
 intro i hi ih s hs
 refine loop_s cd7 rfl rfl hs ?_
 have hlen := w_Wks_len (l:=c.workers)
 refine wa_ (wa_ (wc_region (w_ (m_ (h:=w_ (f_ (h:=w_ (l_ (h:=w_ (le (h:=w_ (b_ (h:=wo_nil (e_ (h:=aft_normal (?_))))))))))))))))
 refine c_ (h1:=?_) (h2:=?_)
 rotate_right 1
 focus
  intro c1
  first
  | exact dn c1
  | (
   have d1 := c1;try simp at d1
   refine wc_exit (?_)
   )
 rotate_right 1
 focus
  intro c1
  first
  | exact dn c1
  | (
   have d1 := c1;try simp at d1
   have hw := wrap_succ (i:=i) (by omega);obtain ⟨b,hb,e1,g1⟩ := wks_cut (t:=false) (l:=c.workers) (i:=i) (by omega);have hbw := w_Wks_mem (List.mem_of_getElem? hb);have hcut := inS_cut hb;have hle := inS_take (l:=c.workers) (i:=i + 1);have hin := inS_w (l:=c.workers);have hbi := w_Frs_len (l:=b.inbox);have hb2 : b.inbox.length < 2000000 := (by unfold w_Wk at hbw;omega);have hws : IntKind.i64.wrap (((n + inS (c.workers.take i) : Nat) : Int) + (b.inbox.length : Int)) = ((n + inS (c.workers.take (i + 1)) : Nat) : Int) := (wrap_id (by omega) (by omega)).trans (by omega)
   refine wc_skip (?_)
   )
 all_goals first
 | refine aft_exit ?_
 | (
  refine aft_normal ?_
  refine wa_ (wc_block (wc_region (w_ (m_ (h:=w_ (f_ (h:=w_ (l_ (h:=w_ (m_ (h:=w_ (x_ (h:=w_ (f_ (h:=w_ (l_ (h:=w_ (le (h:=w_ (b_ (h:=w_ (a_ (h:=wo_nil (e_ (h:=blk_normal (aft_normal (wc_region (w_ (m_ (h:=w_ (b_ (h:=w_ (a_ (h:=wo_nil (e_ (h:=?_))))))))))))))))))))))))))))))))))))
  )
 all_goals first
 | ((refine (ih (i + 1) (by omega) ?_ _ ?_).trans ?_;(focus (first | omega | (simp;done)));(focus (simp only [frs_len,hws];simp [normE,hw];done));(focus rfl)))
 | (apply end_leaf (ex:=(Ext.exit 2)) 1 (some [2,4]);(focus (simp [normE];rfl));(focus (rw [List.take_of_length_le (by omega)];simp)))
theorem e_inflS (c : Cl) (hp : c.plan.length < 2000000) (hk : okN c.plan) (hx : w_Wks c.workers < 2000000) (hy : w_Frss c.links < 2000000) : oc.call 7 [c.v false] = some (.agg [.int .i64 (inflN c).1,.int .i64 (inflN c).2],[]) := by
 refine fun_s rfl cd7 rfl rfl rfl (by simp;rfl) (by simp;rfl) ?_
 have hl2 := w_Frss_len (l:=c.links)
 have hl3 := lenS_w (l:=c.links)
 refine wa_ (wc_region (w_ (bx (h:=w_ (al (h:=wo_nil (e_ (h:=aft_normal (wa_ (wa_ (wc_region (w_ (l_ (h:=w_ (ca (hc:=e_clS c hp hk hx hy) (h:=w_ (a_ (h:=wo_nil (e_ (h:=aft_normal (wa_ (wc_region (w_ (m_ (h:=w_ (bE (h:=wo_nil (e_ (h:=aft_normal (?_))))))))))))))))))))))))))))))
 refine c_ (h1:=?_) (h2:=?_)
 rotate_right 1
 focus
  intro c1
  first
  | exact dn c1
  | (
   have d1 := c1;try simp at d1
   refine wc_skip (?_)
   )
 rotate_right 1
 focus
  intro c1
  first
  | exact dn c1
  | (
   have d1 := c1;try simp at d1
   refine wa_ (wc_region (w_ (m_ (h:=w_ (bd (h:=w0 (s_ (h:=wo_nil (e_ (h:=aft_normal (wc_ret (?_))))))))))))
   )
 all_goals first
 | refine aft_ret ?_
 | (
  refine aft_normal ?_
  refine wa_ (wc_region (w_ (a_ (h:=wo_nil (e_ (h:=aft_normal (wa_ (wa_ (wc_region (w_ (a_ (h:=wo_nil (e_ (h:=aft_normal (wc_block (?_))))))))))))))))
  refine wc_loop (l_infS1 c hy 0 (by omega) _ (by simp [normE,lenS])) ?_
  refine blk_exit (aft_normal (wa_ (wa_ (wc_region (w_ (a_ (h:=wo_nil (e_ (h:=aft_normal (wc_block (?_)))))))))))
  refine wc_loop (l_infS2 c (lenS c.links) hx (by omega) 0 (by omega) _ (by simp [normE,inS])) ?_
  refine blk_exit (aft_normal (wa_ (wc_region (w_ (m_ (h:=w_ (bd (h:=w0 (s_ (h:=wo_nil (e_ (h:=aft_normal (wc_ret (?_))))))))))))))
  )
 all_goals (refine fin_ (hr:=(res_cell (tys_ok.zero _ _ rfl) rfl (by simp;rfl) (by rfl) res_nil)) (h:=?_);(focus (clear hk;simp [inflN, *])))
theorem wksR_all {pl : List Nd} : ∀ {l : List Wk},wksR pl l = 0 → ∀ w ∈ l,wkC pl w = 0
  | [],_,w,h => by cases h
  | x :: r,h,w,hw => by
    by_cases hx : wkC pl x = 0
    · rw [wksR_0 hx] at h
      rcases List.mem_cons.1 hw with rfl | hw
      · exact hx
      · exact wksR_all h w hw
    · rw [wksR_1 hx] at h;exact absurd h hx
theorem wkC_nodes {pl : List Nd} {w : Wk} (h : wkC pl w = 0) : w.nodes.length = pl.length := by
  unfold wkC at h;grind
theorem clN_in {c : Cl} (h : clN c = 0) : (lookN c.plan).2 = 0 ∧ (1 ≤ c.workers.length ∧ c.workers.length ≤ 3) ∧ ∀ w ∈ c.workers,w.nodes.length = c.plan.length := by
  unfold clN at h
  split at h
  · rename_i h0
    unfold clC at h
    split at h
    · rename_i h1
      split at h
      · rename_i h2
        exact ⟨h0,h1.1,fun w hw => wkC_nodes (wksR_all h2 w hw)⟩
      · exact absurd h ‹_›
    · cases h
  · exact absurd h ‹_›
end Go.Proofs.YtadaeiahfidodaaGreat.Ev

namespace Go.Proofs.YtadaeiahfidodaaGreat.Ev
open Go
set_option maxRecDepth 100000
set_option linter.unusedSimpArgs false
set_option linter.unusedVariables false
set_option maxHeartbeats 2000000
def nodesR (op : Int) : Nat → List Nd → List Int
  | _,[] => []
  | i,d :: r => if d.op = op then (i : Int) :: nodesR op (i + 1) r else nodesR op (i + 1) r
theorem l_nodesS (pl : List Nd) (op : Int) (hp : pl.length < 2000000) : ∀ x : Nat × (List Int),(x.1 ≤ pl.length ∧ x.2.length ≤ x.1) → ∀ s,normE 2 (some [0,1,5,6]) s = ⟨[(0,.lst false 0 (nds false 0 pl)),(1,.int .i64 op),(5,.ref 2 0 x.2.length),(6,.int .i64 x.1)],[(2,⟨false,false,1,ints x.2,0⟩)],3⟩ →
 oc.loop 33 3 s = some (.exit 0,⟨[(5,.ref 2 0 (x.2 ++ nodesR op x.1 (pl.drop x.1)).length)],[(2,⟨false,false,1,ints (x.2 ++ nodesR op x.1 (pl.drop x.1)),0⟩)],3⟩) := by
 refine loop_ind (σ:=Nat × (List Int)) (fun x => pl.length - x.1) _ (fun x => ⟨[(0,.lst false 0 (nds false 0 pl)),(1,.int .i64 op),(5,.ref 2 0 x.2.length),(6,.int .i64 x.1)],[(2,⟨false,false,1,ints x.2,0⟩)],3⟩) _ ?_
 rintro ⟨i,out⟩ hi ih s hs
 simp only at hi
 refine loop_s cd33 rfl rfl hs ?_
 obtain ⟨hi,ho⟩ := hi
 refine wa_ (wa_ (wc_region (w_ (m_ (h:=w_ (m_ (h:=w_ (le (h:=w_ (b_ (h:=wo_nil (e_ (h:=aft_normal (?_))))))))))))))
 refine c_ (h1:=?_) (h2:=?_)
 rotate_right 1
 focus
  intro c1
  first
  | exact dn c1
  | (
   have d1 := c1;try simp at d1
   refine wc_exit (?_)
   )
 rotate_right 1
 focus
  intro c1
  first
  | exact dn c1
  | (
   have d1 := c1;try simp at d1
   have hw := wrap_succ (i:=i) (by omega);obtain ⟨d,hx,e1,g1⟩ := nds_cut (t:=false) (s:=0) (l:=pl) (i:=i) (by omega)
   refine wc_skip (?_)
   )
 all_goals first
 | refine aft_exit ?_
 | (
  refine aft_normal ?_
  refine wa_ (wc_block (wa_ (wc_region (w_ (m_ (h:=w_ (m_ (h:=w_ (x_ (h:=w_ (f_ (h:=w_ (l_ (h:=w_ (m_ (h:=w_ (bE (h:=wo_nil (e_ (h:=aft_normal (?_)))))))))))))))))))))
  refine c_ (h1:=?_) (h2:=?_)
  rotate_right 1
  focus
   intro c2
   first
   | exact dn c2
   | (
    have d2 := c2;try simp at d2
    refine wc_skip (?_)
    )
  rotate_right 1
  focus
   intro c2
   first
   | exact dn c2
   | (
    have d2 := c2;try simp at d2
    refine wc_region (w_ (m_ (h:=w_ (m_ (h:=w_ (bs (h:=w_ (ap (h:=w_ (a_ (h:=wo_nil (e_ (h:=?_)))))))))))))
    )
  all_goals refine blk_normal ?_
  all_goals first
  | (
   refine aft_normal ?_
   refine wc_region (w_ (m_ (h:=w_ (b_ (h:=w_ (a_ (h:=wo_nil (e_ (h:=?_)))))))))
   )
  )
 all_goals first
 | (refine (ih ((i + 1,out ++ [(i : Int)])) (⟨by simp;omega,by simp;omega⟩) ?_ _ ?_).trans ?_;(focus (first | omega | (simp;done) | (simp;omega)));(focus (simp [normE,hw];done));(focus (rw [e1,nodesR,if_pos (by simpa using d2)];simp)))
 | (refine (ih ((i + 1,out)) (⟨by simp;omega,by simp;omega⟩) ?_ _ ?_).trans ?_;(focus (first | omega | (simp;done) | (simp;omega)));(focus (simp [normE,hw];done));(focus (rw [e1,nodesR,if_neg (by simpa using d2)])))
 | (apply end_leaf (ex:=(Ext.exit 0)) 2 (some [5]);(focus (simp [normE];rfl));(focus (rw [List.drop_eq_nil_of_le (by omega)];simp [nodesR])))
theorem e_nodesS (pl : List Nd) (op : Int) (hp : pl.length < 2000000) : oc.call 33 [.lst false 0 (nds false 0 pl),.int .i64 op] = some (.lst true 1 (ints (nodesR op 0 pl)),[]) := by
 refine fun_s rfl cd33 rfl rfl rfl (by simp;rfl) (by simp;rfl) ?_
 refine wa_ (wc_region (w_ (aN (h:=wo_nil (e_ (h:=aft_normal (wa_ (wc_region (w_ (bs (h:=w_ (a_ (h:=wo_nil (e_ (h:=aft_normal (wa_ (wa_ (wc_region (w_ (a_ (h:=wo_nil (e_ (h:=aft_normal (wc_block (?_)))))))))))))))))))))))))
 refine wc_loop (l_nodesS pl op hp (0,[]) (by simp) _ (by simp [normE])) ?_
 refine blk_exit (aft_normal (wa_ (wc_region (w_ (m_ (h:=w_ (a_ (h:=wo_nil (e_ (h:=aft_normal (wc_ret (?_))))))))))))
 all_goals (refine fin_ (hr:=(res_tmp rfl res_nil)) (h:=?_);(focus (first | (simp_all;done) | (simp_all <;> omega) | (simp_all <;> split <;> simp_all <;> omega))))
@[simp] abbrev crv (r : Int × List Ct) : V := .agg [.int .i64 r.1,.lst true 3 (cts r.2)]
theorem c1_N (l : List Nd) (hl : l.length < 2000000) (h : l ≠ []) : runE oc cf 35 [.lst false 0 (nds false 0 l)] = some (.lst true 7 (nds false 0 l),[]) := by
 refine run_s cd35 rfl rfl rfl (by first | (simp;rfl) | rfl) (by first | (simp;rfl) | rfl) ?_
 have hne : nds false 0 l ≠ [] := by simpa [nds] using h
 refine wa_ (wc_region (w_ (aN (h:=wo_nil (e_ (h:=aft_normal (wa_ (wa_ (wc_region (w_ (m_ (h:=w_ (bN (h:=wo_nil (e_ (h:=aft_normal (?_)))))))))))))))))
 refine c_ (h1:=?_) (h2:=?_)
 rotate_right 1
 focus
  intro c1
  refine wc_skip (?_)
 rotate_right 1
 focus
  intro c1
  refine wa_ (wc_region (w_ (aN (h:=wo_nil (e_ (h:=aft_normal (wc_ret (?_))))))))
 all_goals first
 | refine aft_ret ?_
 | (
  refine aft_normal ?_
  refine wa_ (wc_region (w_ (bs (h:=w_ (m_ (h:=w_ (ap (h:=w_ (a_ (h:=wo_nil (e_ (h:=aft_normal (wc_ret (?_))))))))))))))
  )
 all_goals (refine fin_ (hr:=(res_tmp rfl res_nil)) (h:=?_);(focus (first | (simp_all;done) | (simp_all <;> omega) | (simp_all <;> split <;> simp_all <;> omega))))
theorem c2_N  : runE oc cf 35 [.emp true] = some (.lst true 7 [],[]) := by
 refine run_s cd35 rfl rfl rfl (by first | (simp;rfl) | rfl) (by first | (simp;rfl) | rfl) ?_
 refine wa_ (wc_region (w_ (aN (h:=wo_nil (e_ (h:=aft_normal (wa_ (wa_ (wc_region (w_ (m_ (h:=w_ (bN (h:=wo_nil (e_ (h:=aft_normal (?_)))))))))))))))))
 refine c_ (h1:=?_) (h2:=?_)
 rotate_right 1
 focus
  intro c1
  first
  | exact dn c1
  | (
   have d1 := c1;try simp at d1
   refine wc_skip (?_)
   )
 rotate_right 1
 focus
  intro c1
  first
  | exact dn c1
  | (
   have d1 := c1;try simp at d1
   refine wa_ (wc_region (w_ (aN (h:=wo_nil (e_ (h:=aft_normal (wc_ret (?_))))))))
   )
 all_goals first
 | refine aft_ret ?_
 | (
  refine aft_normal ?_
  refine wa_ (wc_region (w_ (bs (h:=w_ (m_ (h:=w_ (ap (h:=w_ (a_ (h:=wo_nil (e_ (h:=aft_normal (wc_ret (?_))))))))))))))
  )
 all_goals (refine fin_ (hr:=(res_tmp rfl res_nil)) (h:=?_);(focus (first | (simp_all;done) | (simp_all <;> omega) | (simp_all <;> split <;> simp_all <;> omega))))
theorem c3_N  : runE oc cf 35 [.emp false] = some (.lst true 7 [],[]) := by
 refine run_s cd35 rfl rfl rfl (by first | (simp;rfl) | rfl) (by first | (simp;rfl) | rfl) ?_
 refine wa_ (wc_region (w_ (aN (h:=wo_nil (e_ (h:=aft_normal (wa_ (wa_ (wc_region (w_ (m_ (h:=w_ (bN (h:=wo_nil (e_ (h:=aft_normal (?_)))))))))))))))))
 refine c_ (h1:=?_) (h2:=?_)
 rotate_right 1
 focus
  intro c1
  first
  | exact dn c1
  | (
   have d1 := c1;try simp at d1
   refine wc_skip (?_)
   )
 rotate_right 1
 focus
  intro c1
  first
  | exact dn c1
  | (
   have d1 := c1;try simp at d1
   refine wa_ (wc_region (w_ (aN (h:=wo_nil (e_ (h:=aft_normal (wc_ret (?_))))))))
   )
 all_goals first
 | refine aft_ret ?_
 | (
  refine aft_normal ?_
  refine wa_ (wc_region (w_ (bs (h:=w_ (m_ (h:=w_ (ap (h:=w_ (a_ (h:=wo_nil (e_ (h:=aft_normal (wc_ret (?_))))))))))))))
  )
 all_goals (refine fin_ (hr:=(res_tmp rfl res_nil)) (h:=?_);(focus (first | (simp_all;done) | (simp_all <;> omega) | (simp_all <;> split <;> simp_all <;> omega))))
theorem e_cloneN (l : List Nd) (hl : l.length < 2000000) : oc.call 35 [.lst false 0 (nds false 0 l)] = some (.lst true 7 (nds false 0 l),[]) :=
  nil_s rfl (fun h => c1_N l hl (by rintro rfl;exact h rfl)) (fun h => by have : l = [] := (by simpa [nds] using h);subst this;exact c2_N) (fun h => by have : l = [] := (by simpa [nds] using h);subst this;exact c3_N)
end Go.Proofs.YtadaeiahfidodaaGreat.Ev
namespace Go.Proofs.YtadaeiahfidodaaGreat.Ev
open Go
set_option maxRecDepth 100000
set_option linter.unusedSimpArgs false
set_option linter.unusedVariables false
set_option maxHeartbeats 2000000
section
variable {id base : Nat} {e : List (Nat × V)} {o : List (Nat × Ob)} {n : Nat} {t : TypeId} {K : V → List (Nat × Ob) → Prop}
theorem caT {args : Array Operand} {ts : Array TypeId} {fo : Operand} {f g : FuncId} {q m sz : Nat} {ys : List V} {ob : Ob} {o1 : List (Nat × Ob)} {id' : Nat} (hx : opsV e args.toList = some [.ref q 0 m,.clo g []] := by exact rfl) (hf : opV e fo = some (.clo f []) := by exact rfl) (hB : cf.inB f = false := by (rw [cf_in];rfl)) (hmd : cf.md f = [.take] := by (rw [cf_md];rfl)) (ho : geta o q = some ob := by exact rfl) (hb : ob.bx = false := by rfl) (hfx : ob.fx = false := by rfl) (hm : m = ob.xs.length := by first | rfl | simp) (hd : dela o q = o1 := by (simp;rfl))
    (hc : oc.call f [.lst true ob.sz ob.xs,.clo g []] = some (.lst true sz ys,[])) (hid : id = id' := by ((try simp);rfl)) (h : K (.ref id' 0 ys.length) ((id',⟨false,false,sz,ys,0⟩) :: o1)) : opK oc.call cf id base e o n t (.call ⟨.value fo,args,ts⟩) K := by
  subst hd hm hid
  refine ⟨_,_,?_,h⟩
  have hg : St.give ⟨e,o,n⟩ q 0 ob.xs.length = some (ob.sz,ob.xs,⟨e,dela o q,n⟩) := by
    simp only [St.give,ho,hb,hfx,Nat.zero_add,Nat.le_refl,and_self,if_true,List.drop_zero,List.take_length]
  have hz : V.fz (.ref q 0 ob.xs.length) ⟨e,o,n⟩ = some (.lst true ob.sz ob.xs,⟨e,dela o q,n⟩) := by
    simp only [V.fz,hg,mp_some]
  have hs : V.snapA ⟨e,dela o q,n⟩ (.clo g []) = some (.clo g []) := rfl
  simp only [opE,hx,hf,V.capsOk,if_true,hB,Bool.false_eq_true,if_false,List.append_nil,callV,hmd,lendV,lendOne,List.headD_cons,List.tail_cons,List.headD_nil,List.tail_nil,hz,V.argOk,V.isTup,snapsV,hs,mp_some,hc,plainM,V.mention,V.mentionL,List.isEmpty_nil,true_or,V.thaw,true_and,backs,List.nil_append,List.singleton_append]
  rw [if_pos (by omega)]
end
@[simp] theorem Nd.ne_und (t : Bool) (s : Nat) (x : Nd) : (x.v t s = V.und) = False := by simp [Nd.v]
def idxU (p : Nd → Bool) (i : Nat) : List (Nd) → Int
  | [] => -1
  | x :: r => if p x = true then i else idxU p (i + 1) r
theorem l_ix_Unions (l : List (Nd))  (p : Nd → Bool) (hl : l.length < 2000000) (hc : ∀ x ∈ l,oc.call 36 [x.v false 0] = some (.bool (p x),[])) : ∀ i : Nat,i ≤ l.length → ∀ s,normE 2 (some [0,1,7,8]) s = ⟨[(0,.lst false 0 (nds false 0 l)),(1,.clo 36 []),(7,.int .i64 l.length),(8,.int .i64 i)],[],2⟩ →
 oc.loop 62 2 s = some (if 0 ≤ idxU p i (l.drop i) then (.ret,⟨[(4,.int .i64 (idxU p i (l.drop i)))],[],2⟩) else (.exit 0,⟨[],[],2⟩)) := by
 refine loop_ind (fun i => l.length - i) _ (fun i => ⟨[(0,.lst false 0 (nds false 0 l)),(1,.clo 36 []),(7,.int .i64 l.length),(8,.int .i64 i)],[],2⟩) _ ?_
 intro i hi ih s hs
 refine loop_s cd62 rfl rfl hs ?_
 refine wa_ (wc_region (w_ (b_ (h:=wo_nil (e_ (h:=aft_normal (wa_ (?_))))))))
 refine c_ (h1:=?_) (h2:=?_)
 rotate_right 1
 focus
  intro c1
  first
  | exact dn c1
  | (
   have d1 := c1;try simp at d1
   refine wc_exit (?_)
   )
 rotate_right 1
 focus
  intro c1
  first
  | exact dn c1
  | (
   have d1 := c1;try simp at d1
   have hw := wrap_succ (i:=i) (by omega);obtain ⟨x,hx,e1,g1⟩ := nds_cut (t:=false) (s:=0) (l:=l) (i:=i) (by omega);have hq := hc x (List.mem_of_getElem? hx)
   refine wc_skip (?_)
   )
 all_goals first
 | refine aft_exit ?_
 | (
  refine aft_normal ?_
  refine wa_ (wc_block (wa_ (wc_region (w_ (m_ (h:=w_ (a_ (h:=wo_nil (e_ (h:=aft_normal (wa_ (wc_region (w_ (m_ (h:=w_ (m_ (h:=?_)))))))))))))))))
  refine w_ (m_ (h:=w_ (x_ (h:=w_ (l_ (h:=w_ (?_)))))))
  refine k_callS rfl rfl (by rw [cf_in];rfl) rfl (by rw [cf_md];rfl) (by simp [cf_md,mdT];rfl) (by first | rfl | simp [*]) hq rfl (by simp;rfl) (by simp [cf_md,mdT]) (by simp;rfl) (by simp;rfl) ?_
  refine wo_nil (e_ (h:=aft_normal (?_)))
  refine c_ (h1:=?_) (h2:=?_)
  rotate_right 1
  focus
   intro c2
   first
   | exact dn c2
   | (
    have d2 := c2;try simp at d2
    refine wc_skip (?_)
    )
  rotate_right 1
  focus
   intro c2
   first
   | exact dn c2
   | (
    have d2 := c2;try simp at d2
    refine wa_ (wc_region (w_ (m_ (h:=w_ (a_ (h:=wo_nil (e_ (h:=aft_normal (wc_ret (?_))))))))))
    )
  all_goals first | refine blk_normal ?_ | refine blk_ret ?_
  all_goals first
  | refine aft_ret ?_
  | (
   refine aft_normal ?_
   refine wc_region (w_ (b_ (h:=w_ (m_ (h:=wo_nil (e_ (h:=?_)))))))
   )
  )
 all_goals first
 | (refine (ih (i + 1) (by omega) ?_ _ ?_).trans ?_;(focus (first | omega | (simp;done) | (simp;omega)));(focus (simp [normE,hw];done));(focus (rw [e1];simp only [idxU,if_neg (show ¬ p x = true by simp [d2])])))
 | (apply end_leaf (ex:=Ext.ret) 2 (some [4]);(focus (simp [normE];rfl));(focus (rw [e1];simp [idxU,d2])))
 | (apply end_leaf (ex:=(Ext.exit 0)) 2 (some [4]);(focus (simp [normE];rfl));(focus (rw [List.drop_eq_nil_of_le (by omega)];simp [idxU])))
theorem e_ix_Unions (l : List (Nd))  (p : Nd → Bool) (hl : l.length < 2000000) (hc : ∀ x ∈ l,oc.call 36 [x.v false 0] = some (.bool (p x),[])) : oc.call 62 [.lst false 0 (nds false 0 l),.clo 36 []] = some (.int .i64 (if 0 ≤ idxU p 0 l then idxU p 0 l else -1),[]) := by
 refine fun_s rfl cd62 rfl rfl rfl (by simp;rfl) (by simp;rfl) ?_
 refine wa_ (wc_region (w_ (a_ (h:=wo_nil (e_ (h:=aft_normal (wa_ (wa_ (wc_region (w_ (m_ (h:=w_ (le (h:=w_ (m_ (h:=wo_nil (e_ (h:=?_))))))))))))))))))
 refine aft_normal (wc_block (?_))
 refine wc_loopI (l_ix_Unions l  p hl hc 0 (by omega) _ (by simp [normE])) ?_ ?_
 rotate_right 1
 focus
  intro c1
  skip
 rotate_right 1
 focus
  intro c1
  skip
 all_goals first | refine blk_ret ?_ | refine blk_exit ?_
 all_goals first
 | refine aft_ret ?_
 | (
  refine aft_normal ?_
  refine wa_ (wc_region (w_ (a_ (h:=wo_nil (e_ (h:=aft_normal (wc_ret (?_))))))))
  )
 all_goals (refine fin_ (hr:=(res_tmp rfl res_nil)) (h:=?_);(focus (clear hc;first | (simp_all;done) | (simp_all <;> omega))))
theorem e_rf1 (d : Nd) : oc.call 36 [d.v false 0] = some (.bool (decide (¬ d.op = 4)),[]) := by
 refine fun_s rfl cd36 rfl rfl rfl (by simp;rfl) (by simp;rfl) ?_
 refine wa_ (wc_region (w_ (bx (h:=w_ (a_ (h:=wo_nil (e_ (h:=aft_normal (wa_ (wc_region (w_ (f_ (h:=w_ (l_ (h:=w_ (bE (h:=w_ (a_ (h:=?_)))))))))))))))))))
 refine wo_nil (e_ (h:=aft_normal (wc_ret (?_))))
 all_goals (refine fin_ (hr:=(res_tmp rfl res_nil)) (h:=?_);(focus (simp)))
def isU (d : Nd) : Bool := decide (d.op = 4)
def notU (d : Nd) : Bool := decide (¬ d.op = 4)
theorem idxU_neg : ∀ {l : List Nd} {i : Nat},¬ 0 ≤ idxU notU i l → l.filter isU = l
  | [],_,_ => rfl
  | x :: r,i,h => by
    unfold idxU at h
    by_cases hx : notU x = true
    · rw [if_pos hx] at h;omega
    · rw [if_neg hx] at h
      have h4 : isU x = true := by simp [notU] at hx;simp [isU,hx]
      rw [List.filter_cons,if_pos h4,idxU_neg h]
theorem idxU_pos : ∀ {l : List Nd} {i : Nat},0 ≤ idxU notU i l → ∃ k : Nat,idxU notU i l = ((i + k : Nat) : Int) ∧ k < l.length ∧ (l.take k).filter isU = l.take k ∧ (l.drop k).filter isU = (l.drop (k + 1)).filter isU
  | [],i,h => by simp [idxU] at h
  | x :: r,i,h => by
    unfold idxU at h ⊢
    by_cases hx : notU x = true
    · rw [if_pos hx]
      have h4 : ¬ isU x = true := by simp [notU] at hx;simp [isU,hx]
      exact ⟨0,by simp,by simp,rfl,by simp [h4]⟩
    · rw [if_neg hx] at h ⊢
      obtain ⟨k,e1,e2,e3,e4⟩ := idxU_pos h
      have h4 : isU x = true := by simp [notU] at hx;simp [isU,hx]
      exact ⟨k + 1,by rw [e1];congr 1;omega,by simp;omega,by rw [List.take_succ_cons,List.filter_cons,if_pos h4,e3],by simpa using e4⟩
def delF : List Nd → Nat → List Nd → Nat × List Nd
  | [],i,r => (i,r)
  | d :: t,i,r => if isU d = true then delF t (i + 1) (r.set i d) else delF t i r
theorem delF_is : ∀ {t : List Nd} {i : Nat} {r : List Nd},i + t.length < r.length → (delF t i r).2.length = r.length ∧ (delF t i r).1 < r.length ∧ (delF t i r).2.take (delF t i r).1 = r.take i ++ t.filter isU
  | [],i,r,h => by simp [delF] at *;exact h
  | d :: t,i,r,h => by
    simp only [List.length_cons] at h
    unfold delF
    by_cases hd : isU d = true
    · rw [if_pos hd]
      obtain ⟨h1,h2,h3⟩ := delF_is (t:=t) (i:=i + 1) (r:=r.set i d) (by simp;omega)
      simp only [List.length_set] at h1 h2
      refine ⟨h1,h2,?_⟩
      rw [h3,List.filter_cons,if_pos hd]
      have : (r.set i d).take (i + 1) = r.take i ++ [d] := by
        rw [List.take_add_one,List.getElem?_set_self (by omega),List.take_set_of_le (by omega)];rfl
      rw [this];simp
    · rw [if_neg hd]
      obtain ⟨h1,h2,h3⟩ := delF_is (t:=t) (i:=i) (r:=r) (by omega)
      exact ⟨h1,h2,by rw [h3,List.filter_cons,if_neg hd]⟩
theorem drop_succ_eq {α : Type} {r l : List α} {j : Nat} (h : r.drop j = l.drop j) : r.drop (j + 1) = l.drop (j + 1) := by
  rw [← List.drop_drop,h,List.drop_drop]
theorem l_del (l : List Nd) (N : Nat) (hN : l.length = N) (hl : N < 2000000) : ∀ x : Nat × Nat × (List Nd),(x.1 < x.2.1 ∧ x.2.1 ≤ N ∧ x.2.2.length = N ∧ x.2.2.drop x.2.1 = l.drop x.2.1) → ∀ s,normE 2 (some [0,1,5,6]) s = ⟨[(0,.ref 0 0 N),(1,.clo 36 []),(5,.int .i64 x.1),(6,.int .i64 x.2.1)],[(0,⟨false,false,7,nds false 0 x.2.2,0⟩)],2⟩ →
 oc.loop 34 5 s = some (.exit 0,⟨[(0,.ref 0 0 N),(5,.int .i64 ((delF (l.drop x.2.1) x.1 x.2.2).1 : Nat))],[(0,⟨false,false,7,nds false 0 (delF (l.drop x.2.1) x.1 x.2.2).2,0⟩)],2⟩) := by
 refine loop_ind (σ:=Nat × Nat × (List Nd)) (fun x => N - x.2.1) _ (fun x => ⟨[(0,.ref 0 0 N),(1,.clo 36 []),(5,.int .i64 x.1),(6,.int .i64 x.2.1)],[(0,⟨false,false,7,nds false 0 x.2.2,0⟩)],2⟩) _ ?_
 rintro ⟨i,j,r⟩ hi ih s hs
 simp only at hi
 refine loop_s cd34 rfl rfl hs ?_
 obtain ⟨hi1,hi2,hi3,hi4⟩ := hi
 refine wa_ (wa_ (wc_region (w_ (m_ (h:=w_ (m_ (h:=w_ (le (h:=w_ (b_ (h:=wo_nil (e_ (h:=aft_normal (?_))))))))))))))
 refine c_ (h1:=?_) (h2:=?_)
 rotate_right 1
 focus
  intro c1
  first
  | exact dn c1
  | (
   have d1 := c1;try simp at d1
   refine wc_exit (?_)
   )
 rotate_right 1
 focus
  intro c1
  first
  | exact dn c1
  | (
   have d1 := c1;try simp at d1
   have hw := wrap_succ (i:=j) (by omega);have hwi := wrap_succ (i:=i) (by omega);obtain ⟨d,hx,e1,_⟩ := nds_cut (t:=false) (s:=0) (l:=l) (i:=j) (by omega);have hy : r[j]? = some d := (by have := congrArg (fun q => q[0]?) hi4;simpa [hx] using this);have g2 : (nds false 0 r)[j]? = some (d.v false 0) := nds_get hy;obtain ⟨y,hy2⟩ : ∃ y,r[i]? = some y := ⟨r[i]'(by omega),by simp⟩;have g3 : (nds false 0 r)[i]? = some (y.v false 0) := nds_get hy2;have e2 := drop_succ_eq hi4
   refine wc_skip (?_)
   )
 all_goals first
 | refine aft_exit ?_
 | (
  refine aft_normal ?_
  refine wa_ (wc_block (wa_ (wc_region (w_ (m_ (h:=w_ (m_ (h:=w_ (x_ (h:=w_ (l_ (h:=w_ (al (h:=w0 (s_ (h:=wo_nil (e_ (h:=aft_normal (?_)))))))))))))))))))
  refine wa_ (wc_region (w_ (m_ (h:=w_ (l_ (h:=w_ (ca (hc:=e_rf1 d) (h:=w_ (u_ (h:=wo_nil (e_ (h:=aft_normal (?_)))))))))))))
  refine c_ (h1:=?_) (h2:=?_)
  rotate_right 1
  focus
   intro c2
   first
   | exact dn c2
   | (
    have d2 := c2;try simp at d2
    refine wc_skip (?_)
    )
  rotate_right 1
  focus
   intro c2
   first
   | exact dn c2
   | (
    have d2 := c2;try simp at d2
    refine wa_ (wc_region (w_ (m_ (h:=w_ (m_ (h:=w_ (l_ (h:=w_ (x_ (h:=w0 (s_ (h:=wo_nil (e_ (h:=aft_normal (wc_region (w_ (m_ (h:=w_ (b_ (h:=?_))))))))))))))))))))
    refine w_ (a_ (h:=wo_nil (e_ (h:=?_))))
    )
  all_goals refine blk_normal ?_
  all_goals first
  | (
   refine aft_normal ?_
   refine wc_region (w_ (m_ (h:=w_ (b_ (h:=w_ (a_ (h:=wo_nil (e_ (h:=?_)))))))))
   )
  )
 all_goals first
 | (refine (ih ((i + 1,j + 1,r.set i d)) (⟨by simp;omega,by simp;omega,by simpa using hi3,by simp only;rw [List.drop_set_of_lt (by omega)];exact e2⟩) ?_ _ ?_).trans ?_;(focus (first | omega | (simp;done) | (simp;omega)));(focus (simp [normE,hw,hwi,nds_set];done));(focus (rw [e1,delF,if_pos (by simpa [isU] using d2)])))
 | (refine (ih ((i,j + 1,r)) (⟨by simp;omega,by simp;omega,by simpa using hi3,by simp only;exact e2⟩) ?_ _ ?_).trans ?_;(focus (first | omega | (simp;done) | (simp;omega)));(focus (simp [normE,hw];done));(focus (rw [e1,delF,if_neg (by simpa [isU] using d2)])))
 | (apply end_leaf (ex:=(Ext.exit 0)) 2 (some [0,5]);(focus (simp [normE];rfl));(focus (dsimp only;rw [List.drop_eq_nil_of_le (by omega)];simp [delF])))
theorem cut_tail {e : List (Nat × V)} {o : List (Nat × Ob)} {n N I : Nat} {ob : Ob} {k : Nat} {a : Int} (ha : a = (I : Int)) (hI : I < N) (ho : geta o 0 = some ob) (hs : ob.sz = k) : cutV ⟨e,o,n⟩ k (.ref 0 0 N) a (N : Int) = some (.ref 0 I (N - I)) := by
  subst ha
  unfold cutV
  by_cases h : (I : Int) = 0
  · have : I = 0 := by omega
    subst this
    simp
  · simp only [if_neg h,if_neg (show ¬ (I : Int) = (N : Int) by omega),ho,hs,if_true]
    simp
theorem e_delU (l : List Nd) (hl : l.length < 2000000) : oc.call 34 [.lst true 7 (nds false 0 l),.clo 36 []] = some (.lst true 7 (nds false 0 (l.filter isU)),[]) := by
  have hix := e_ix_Unions l notU hl (fun x _ => by simpa [notU] using e_rf1 x)
  by_cases hp : 0 ≤ idxU notU 0 l
  · obtain ⟨k,e1,e2,e3,e4⟩ := idxU_pos hp
    rw [if_pos hp,e1] at hix
    simp only [Nat.zero_add] at hix
    obtain ⟨D1,D2,D3⟩ := delF_is (t:=l.drop (k + 1)) (i:=k) (r:=l) (by simp;omega)
    have hfilt : l.filter isU = l.take k ++ (l.drop (k + 1)).filter isU := by
      conv => lhs;rw [← List.take_append_drop k l]
      rw [List.filter_append,e3,e4]
    rw [← hfilt] at D3
    obtain ⟨I,R,hD⟩ : ∃ I R,delF (l.drop (k + 1)) k l = (I,R) := ⟨_,_,rfl⟩
    rw [hD] at D1 D2 D3
    simp only at D1 D2 D3
    obtain ⟨F,hF⟩ : ∃ F,l.filter isU = F := ⟨_,rfl⟩
    rw [hF] at D3 ⊢
    have hFl : F.length = I := by rw [← D3,List.length_take];omega
    subst hFl
    have hw : IntKind.i64.wrap ((k : Int) + 1) = ((k + 1 : Nat) : Int) := wrap_succ (by omega)
    have hdel := l_del l l.length rfl hl (k,k + 1,l) ⟨by simp,by simp;omega,rfl,rfl⟩
    simp only [hD] at hdel
    refine fun_s rfl cd34 rfl rfl rfl (by simp;rfl) (by simp;rfl) ?_
    refine wa_ (wc_region (w_ (aN (h:=wo_nil (e_ (h:=aft_normal (wa_ (wc_region (w_ (m_ (h:=w_ (m_ (h:=w_ (ca (hc:=hix) (h:=w_ (a_ (h:=wo_nil (e_ (h:=?_)))))))))))))))))))
    refine aft_normal (wa_ (wa_ (wc_region (w_ (m_ (h:=w_ (bE (h:=wo_nil (e_ (h:=aft_normal (?_)))))))))))
    refine c_ (h1:=?_) (h2:=?_)
    rotate_right 1
    focus
     intro c1
     first
     | exact dn c1
     | (have d1 := c1;try simp at d1
        refine wc_skip (?_)
        )
    rotate_right 1
    focus
     intro c1
     first
     | exact dn c1
     | (have d1 := c1;try simp at d1
        exfalso;simp at c1;omega
        )
    all_goals first
    | refine aft_ret ?_
    | (refine aft_normal ?_
       refine wa_ (wa_ (wc_region (w_ (m_ (h:=w_ (b_ (h:=w_ (a_ (h:=wo_nil (e_ (h:=aft_normal (wc_block (?_)))))))))))))
       refine wc_loop (hdel _ (by simp [normE,hw])) ?_
       refine blk_exit (aft_normal (wa_ (wc_region (w_ (m_ (h:=w_ (m_ (h:=w_ (?_)))))))))
       refine sl (v:=.ref 0 F.length (l.length - F.length)) (hv:=cut_tail rfl (by omega) rfl rfl) (h:=?_)
       refine w0 (?_)
       refine cl (ws:=nds false 0 F) (hw:=by simp [D3]) (h:=?_)
       refine wo_nil (e_ (h:=aft_normal (wa_ (wc_region (w_ (m_ (h:=w_ (m_ (h:=w_ (sl (h:=w_ (a_ (h:=wo_nil (e_ (h:=aft_normal (wc_ret (?_)))))))))))))))))
       )
    all_goals (refine fin_ (hr:=(res_tmp rfl res_nil)) (h:=?_);(focus (simp)))
  · have hfil := idxU_neg hp
    rw [if_neg hp] at hix
    rw [hfil]
    refine fun_s rfl cd34 rfl rfl rfl (by simp;rfl) (by simp;rfl) ?_
    refine wa_ (wc_region (w_ (aN (h:=wo_nil (e_ (h:=aft_normal (wa_ (wc_region (w_ (m_ (h:=w_ (m_ (h:=w_ (ca (hc:=hix) (h:=w_ (a_ (h:=wo_nil (e_ (h:=?_)))))))))))))))))))
    refine aft_normal (wa_ (wa_ (wc_region (w_ (m_ (h:=w_ (bE (h:=wo_nil (e_ (h:=aft_normal (?_)))))))))))
    refine c_ (h1:=?_) (h2:=?_)
    rotate_right 1
    focus
     intro c1
     first
     | exact dn c1
     | (have d1 := c1;try simp at d1
        exfalso;simp at c1
        )
    rotate_right 1
    focus
     intro c1
     first
     | exact dn c1
     | (have d1 := c1;try simp at d1
        refine wa_ (wc_region (w_ (m_ (h:=w_ (a_ (h:=wo_nil (e_ (h:=aft_normal (wc_ret (?_))))))))))
        )
    all_goals first
    | refine aft_ret ?_
    | (refine aft_normal ?_
       refine wa_ (wa_ (wc_region (w_ (m_ (h:=w_ (b_ (h:=w_ (a_ (h:=wo_nil (e_ (h:=aft_normal (wc_block (?_)))))))))))))
       refine wc_loop (hix) ?_
       refine blk_exit (aft_normal (wa_ (wc_region (w_ (m_ (h:=w_ (m_ (h:=w_ (sl (h:=w0 (cl (h:=wo_nil (e_ (h:=aft_normal (wa_ (wc_region (?_)))))))))))))))))
       refine w_ (m_ (h:=w_ (m_ (h:=w_ (sl (h:=w_ (a_ (h:=wo_nil (e_ (h:=aft_normal (wc_ret (?_))))))))))))
       )
    all_goals (refine fin_ (hr:=(res_tmp rfl res_nil)) (h:=?_);(focus (simp)))
theorem look_len {pl : List Nd} (h : (lookN pl).2 = 0) : pl.length ≤ 8 := by
  unfold lookN at h
  split at h
  · cases h
  · rename_i h1;simp [inI] at h1;omega
theorem nodesR_filter : ∀ {l : List Nd} {i : Nat},(nodesR 4 i l).length = (l.filter isU).length
  | [],_ => rfl
  | d :: r,i => by
    have ih := nodesR_filter (l:=r) (i:=i + 1)
    unfold nodesR
    by_cases hd : d.op = 4
    · rw [if_pos hd,List.filter_cons,if_pos (by simp [isU,hd])];simp [ih]
    · rw [if_neg hd,List.filter_cons,if_neg (by simp [isU,hd])];exact ih
def topR : Int → List Wk → Int
  | o,[] => o
  | o,w :: r => topR (max o w.top) r
theorem max_a {o t : Int} : (if t > o then t else o) = max o t := by omega
theorem max_b {o t : Int} : (if o > t then o else t) = max o t := by omega
theorem pow_in {u : Nat} (h : u ≤ 8) : 2 ^ u ≤ 256 := Nat.le_trans (Nat.pow_le_pow_right (by omega) h) (by decide)
theorem mul_in {F u : Nat} (hF : F < 4000000) (h : u ≤ 8) : F * 2 ^ u ≤ 1024000000 := Nat.le_trans (Nat.mul_le_mul (Nat.le_of_lt hF) (pow_in h)) (by decide)
theorem shl_eq {F u : Nat} {x : Int} (hx : x = (u : Int)) (hu : u ≤ 64) (hm : F * 2 ^ u ≤ 1024000000) : shiftV .shl (.int .i64 (F : Int)) (.int .i64 x) = some (.int .i64 ((F * 2 ^ u : Nat) : Int)) := by
  subst hx
  have hmin : min u 64 = u := by omega
  have e : ((F : Int) * 2 ^ u) = ((F * 2 ^ u : Nat) : Int) := by push_cast;rfl
  simp only [shiftV,if_neg (show ¬ (u : Int) < 0 by omega),Int.toNat_natCast,IntKind.bits,hmin,e]
  rw [wrap_id (by omega) (by omega)]
def rdN (c : Cl) : Int := IntKind.i64.wrap (IntKind.i64.wrap (IntKind.i64.wrap (4 + IntKind.i64.wrap (2 * (c.plan.length : Int))) * IntKind.i64.wrap (1 + topR 0 c.workers)) + (((lenS c.links + inS c.workers) * 2 ^ (c.plan.filter isU).length : Nat) : Int))
def rndV (c : Cl) : Int × Int := if clN c = 0 then (0,rdN c) else (clN c,0)
theorem l_top (c : Cl) (hx : w_Wks c.workers < 2000000) : ∀ x : Nat × Int,(x.1 ≤ c.workers.length) → ∀ s,normE 1 (some [1,2,4,15,16,17]) s = ⟨[(1,.ptr 1 0 []),(2,.ptr 2 0 []),(4,.int .i64 x.2),(15,.lst false 0 (wks false c.workers)),(16,.int .i64 c.workers.length),(17,.int .i64 x.1)],[(1,⟨true,false,3,[c.v false],0⟩),(2,⟨true,false,2,[.agg [.int .i64 0,.int .i64 0]],0⟩)],3⟩ →
 oc.loop 15 6 s = some (.exit 0,⟨[(1,.ptr 1 0 []),(2,.ptr 2 0 []),(4,.int .i64 (topR x.2 (c.workers.drop x.1)))],[(1,⟨true,false,3,[c.v false],0⟩),(2,⟨true,false,2,[.agg [.int .i64 0,.int .i64 0]],0⟩)],3⟩) := by
 refine loop_ind (σ:=Nat × Int) (fun x => c.workers.length - x.1) _ (fun x => ⟨[(1,.ptr 1 0 []),(2,.ptr 2 0 []),(4,.int .i64 x.2),(15,.lst false 0 (wks false c.workers)),(16,.int .i64 c.workers.length),(17,.int .i64 x.1)],[(1,⟨true,false,3,[c.v false],0⟩),(2,⟨true,false,2,[.agg [.int .i64 0,.int .i64 0]],0⟩)],3⟩) _ ?_
 rintro ⟨i,o⟩ hi ih s hs
 simp only at hi
 refine loop_s cd15 rfl rfl hs ?_
 have hlen := w_Wks_len (l:=c.workers)
 refine wa_ (wc_region (w_ (b_ (h:=wo_nil (e_ (h:=aft_normal (wa_ (?_))))))))
 refine c_ (h1:=?_) (h2:=?_)
 rotate_right 1
 focus
  intro c1
  first
  | exact dn c1
  | (
   have d1 := c1;try simp at d1
   refine wc_exit (?_)
   )
 rotate_right 1
 focus
  intro c1
  first
  | exact dn c1
  | (
   have d1 := c1;try simp at d1
   have hw := wrap_succ (i:=i) (by omega);obtain ⟨b,hb,e1,g1⟩ := wks_cut (t:=false) (l:=c.workers) (i:=i) (by omega);have hmax := max_a (o:=o) (t:=b.top)
   refine wc_skip (?_)
   )
 all_goals first
 | refine aft_exit ?_
 | (
  refine aft_normal ?_
  refine wa_ (wc_block (wa_ (wc_region (w_ (x_ (h:=w_ (l_ (h:=w_ (al (h:=w0 (s_ (h:=wo_nil (e_ (h:=aft_normal (wc_region (w_ (m_ (h:=?_))))))))))))))))))
  refine w_ (f_ (h:=w_ (l_ (h:=w_ (ma (h:=w_ (a_ (h:=wo_nil (e_ (h:=blk_normal (aft_normal (wc_region (w_ (b_ (h:=w_ (m_ (h:=wo_nil (e_ (h:=?_)))))))))))))))))))
  )
 all_goals first
 | (refine (ih ((i + 1,max o b.top)) (by simp;omega) ?_ _ ?_).trans ?_;(focus (first | omega | (simp;done) | (simp;omega)));(focus (simp [normE,hw,hmax];done));(focus (rw [e1,topR])))
 | (apply end_leaf (ex:=(Ext.exit 0)) 1 (some [1,2,4]);(focus (simp [normE];rfl));(focus (rw [List.drop_eq_nil_of_le (by omega)];simp [topR])))
theorem e_rndI (c : Cl) (hp : c.plan.length < 2000000) (hk : okN c.plan) (hx : w_Wks c.workers < 2000000) (hy : w_Frss c.links < 2000000) : oc.call 15 [c.v false] = some (.agg [.int .i64 (rndV c).1,.int .i64 (rndV c).2],[]) := by
 refine fun_s rfl cd15 rfl rfl rfl (by simp;rfl) (by simp;rfl) ?_
 have hl2 := w_Frss_len (l:=c.links)
 have hl3 := lenS_w (l:=c.links)
 have hl4 := inS_w (l:=c.workers)
 refine wa_ (wc_region (w_ (bx (h:=w_ (al (h:=wo_nil (e_ (h:=aft_normal (wa_ (wa_ (wc_region (w_ (l_ (h:=w_ (ca (hc:=e_clI c hp hk hx hy) (h:=w_ (a_ (h:=?_))))))))))))))))))
 refine wo_nil (e_ (h:=aft_normal (wa_ (wc_region (w_ (m_ (h:=w_ (bE (h:=wo_nil (e_ (h:=aft_normal (?_))))))))))))
 refine c_ (h1:=?_) (h2:=?_)
 rotate_right 1
 focus
  intro c1
  first
  | exact dn c1
  | (
   have d1 := c1;try simp at d1
   obtain ⟨q3,q4,q5⟩ := clN_in d1;have q6 := look_len q3;have q7 : (c.plan.filter isU).length ≤ 8 := Nat.le_trans (List.length_filter_le _ _) q6;have q8 := mul_in (F:=lenS c.links + inS c.workers) (u:=(c.plan.filter isU).length) (by omega) q7;have hshift : ∀ x : Int,x = ((c.plan.filter isU).length : Int) → shiftV .shl (.int .i64 ((lenS c.links + inS c.workers : Nat) : Int)) (.int .i64 x) = some (.int .i64 (((lenS c.links + inS c.workers) * 2 ^ (c.plan.filter isU).length : Nat) : Int)) := (fun x hx => shl_eq hx (by omega) q8)
   refine wc_skip (?_)
   )
 rotate_right 1
 focus
  intro c1
  first
  | exact dn c1
  | (
   have d1 := c1;try simp at d1
   refine wa_ (wc_region (w_ (m_ (h:=w_ (bd (h:=w0 (s_ (h:=wo_nil (e_ (h:=aft_normal (wc_ret (?_))))))))))))
   )
 all_goals first
 | refine aft_ret ?_
 | (
  refine aft_normal ?_
  refine wa_ (wc_region (w_ (a_ (h:=wo_nil (e_ (h:=aft_normal (wa_ (wa_ (wc_region (w_ (f_ (h:=w_ (l_ (h:=w_ (le (h:=w_ (m_ (h:=?_))))))))))))))))))
  refine wo_nil (e_ (h:=aft_normal (wc_block (?_))))
  refine wc_loop (l_top c hx (0,0) (by simp) _ (by simp [normE])) ?_
  refine blk_exit (aft_normal (wa_ (wc_region (w_ (f_ (h:=w_ (l_ (h:=w_ (ca (hc:=e_cloneN c.plan hp) (h:=w_ (?_)))))))))))
  refine caT (hc:=e_delU c.plan hp) (h:=?_)
  refine w_ (le (h:=w_ (a_ (h:=wo_nil (e_ (h:=aft_normal (wa_ (wc_region (w_ (f_ (h:=w_ (l_ (h:=w_ (ca (hc:=e_sizeN _ _ (by simp;omega)) (h:=w_ (b_ (h:=w_ (b_ (h:=w_ (m_ (h:=?_)))))))))))))))))))))
  refine w_ (b_ (h:=w_ (b_ (h:=w_ (ca (hc:=e_infl2 c (by omega) (by omega) (clN_zero d1) hx) (h:=w_ (m_ (h:=w_ (?_)))))))))
  refine sh (hv:=hshift _ (by simp)) (h:=?_)
  refine w_ (b_ (h:=w_ (bd (h:=w0 (s_ (h:=wo_nil (e_ (h:=aft_normal (wc_ret (?_))))))))))
  )
 all_goals (refine fin_ (hr:=(res_cell (tys_ok.zero _ _ rfl) rfl (by simp;rfl) (by rfl) res_nil)) (h:=?_);(focus (clear hk;first | (simp [rndV,rdN,IntKind.bits, *];done) | (simp [rndV,d1];done))))
theorem e_l1Max (a b : Int) : oc.call 32 [.int .i64 a,.int .i64 b] = some (.int .i64 (max a b),[]) := by
 refine fun_s rfl cd32 rfl rfl rfl (by simp;rfl) (by simp;rfl) ?_
 refine wa_ (wc_region (w_ (a_ (h:=wo_nil (e_ (h:=aft_normal (wa_ (wa_ (wc_region (w_ (m_ (h:=w_ (m_ (h:=w_ (b_ (h:=wo_nil (e_ (h:=?_))))))))))))))))))
 refine aft_normal (?_)
 refine c_ (h1:=?_) (h2:=?_)
 rotate_right 1
 focus
  intro c1
  first
  | exact dn c1
  | (
   have d1 := c1;try simp at d1
   refine wc_skip (?_)
   )
 rotate_right 1
 focus
  intro c1
  first
  | exact dn c1
  | (
   have d1 := c1;try simp at d1
   refine wa_ (wc_region (w_ (m_ (h:=w_ (a_ (h:=wo_nil (e_ (h:=aft_normal (wc_ret (?_))))))))))
   )
 all_goals first
 | refine aft_ret ?_
 | (
  refine aft_normal ?_
  refine wa_ (wc_region (w_ (m_ (h:=w_ (a_ (h:=wo_nil (e_ (h:=aft_normal (wc_ret (?_))))))))))
  )
 all_goals (refine fin_ (hr:=(res_tmp rfl res_nil)) (h:=?_);(focus (simp at *;omega)))
theorem l_topS (c : Cl) (hx : w_Wks c.workers < 2000000) : ∀ x : Nat × Int,(x.1 ≤ c.workers.length) → ∀ s,normE 1 (some [1,2,4,5]) s = ⟨[(1,.ptr 1 0 []),(2,.ptr 2 0 []),(4,.int .i64 x.2),(5,.int .i64 x.1)],[(1,⟨true,false,3,[c.v false],0⟩),(2,⟨true,false,2,[.agg [.int .i64 0,.int .i64 0]],0⟩)],3⟩ →
 oc.loop 14 6 s = some (.exit 0,⟨[(1,.ptr 1 0 []),(2,.ptr 2 0 []),(4,.int .i64 (topR x.2 (c.workers.drop x.1)))],[(1,⟨true,false,3,[c.v false],0⟩),(2,⟨true,false,2,[.agg [.int .i64 0,.int .i64 0]],0⟩)],3⟩) := by
 refine loop_ind (σ:=Nat × Int) (fun x => c.workers.length - x.1) _ (fun x => ⟨[(1,.ptr 1 0 []),(2,.ptr 2 0 []),(4,.int .i64 x.2),(5,.int .i64 x.1)],[(1,⟨true,false,3,[c.v false],0⟩),(2,⟨true,false,2,[.agg [.int .i64 0,.int .i64 0]],0⟩)],3⟩) _ ?_
 rintro ⟨i,o⟩ hi ih s hs
 simp only at hi
 refine loop_s cd14 rfl rfl hs ?_
 have hlen := w_Wks_len (l:=c.workers)
 refine wa_ (wa_ (wc_region (w_ (m_ (h:=w_ (f_ (h:=w_ (l_ (h:=w_ (le (h:=w_ (b_ (h:=wo_nil (e_ (h:=aft_normal (?_))))))))))))))))
 refine c_ (h1:=?_) (h2:=?_)
 rotate_right 1
 focus
  intro c1
  first
  | exact dn c1
  | (
   have d1 := c1;try simp at d1
   refine wc_exit (?_)
   )
 rotate_right 1
 focus
  intro c1
  first
  | exact dn c1
  | (
   have d1 := c1;try simp at d1
   have hw := wrap_succ (i:=i) (by omega);obtain ⟨b,hb,e1,g1⟩ := wks_cut (t:=false) (l:=c.workers) (i:=i) (by omega);have hmax := max_b (o:=o) (t:=b.top)
   refine wc_skip (?_)
   )
 all_goals first
 | refine aft_exit ?_
 | (
  refine aft_normal ?_
  refine wa_ (wc_block (wc_region (w_ (m_ (h:=w_ (f_ (h:=w_ (l_ (h:=w_ (m_ (h:=w_ (x_ (h:=w_ (f_ (h:=w_ (l_ (h:=w_ (ca (hc:=e_l1Max _ _) (h:=w_ (a_ (h:=?_)))))))))))))))))))))
  refine wo_nil (e_ (h:=blk_normal (aft_normal (wc_region (w_ (m_ (h:=w_ (b_ (h:=w_ (a_ (h:=wo_nil (e_ (h:=?_)))))))))))))
  )
 all_goals first
 | (refine (ih ((i + 1,max o b.top)) (by simp;omega) ?_ _ ?_).trans ?_;(focus (first | omega | (simp;done) | (simp;omega)));(focus (simp [normE,hw];done));(focus (rw [e1,topR])))
 | (apply end_leaf (ex:=(Ext.exit 0)) 1 (some [1,2,4]);(focus (simp [normE];rfl));(focus (rw [List.drop_eq_nil_of_le (by omega)];simp [topR])))
theorem l_dbl (c : Cl) (tp : Int) (F u : Nat) (hp : c.plan.length < 2000000) (hu : (nodesR 4 0 c.plan).length = u) (hu8 : u ≤ 8) (hF : F < 4000000) : ∀ i : Nat,(i ≤ u) → ∀ s,normE 1 (some [1,2,4,6,7]) s = ⟨[(1,.ptr 1 0 []),(2,.ptr 2 0 []),(4,.int .i64 tp),(6,.int .i64 ((F * 2 ^ i : Nat) : Int)),(7,.int .i64 i)],[(1,⟨true,false,3,[c.v false],0⟩),(2,⟨true,false,2,[.agg [.int .i64 0,.int .i64 0]],0⟩)],3⟩ →
 oc.loop 14 11 s = some (.exit 2,⟨[(1,.ptr 1 0 []),(2,.ptr 2 0 []),(4,.int .i64 tp),(6,.int .i64 ((F * 2 ^ u : Nat) : Int))],[(1,⟨true,false,3,[c.v false],0⟩),(2,⟨true,false,2,[.agg [.int .i64 0,.int .i64 0]],0⟩)],3⟩) := by
 refine loop_ind (σ:=Nat) (fun i => u - i) _ (fun i => ⟨[(1,.ptr 1 0 []),(2,.ptr 2 0 []),(4,.int .i64 tp),(6,.int .i64 ((F * 2 ^ i : Nat) : Int)),(7,.int .i64 i)],[(1,⟨true,false,3,[c.v false],0⟩),(2,⟨true,false,2,[.agg [.int .i64 0,.int .i64 0]],0⟩)],3⟩) _ ?_
 intro i hi ih s hs
 refine loop_s cd14 rfl rfl hs ?_
 refine wa_ (wa_ (wc_region (w_ (m_ (h:=w_ (f_ (h:=w_ (l_ (h:=w_ (ca (hc:=e_nodesS c.plan 4 hp) (h:=w_ (le (h:=w_ (b_ (h:=wo_nil (e_ (h:=aft_normal (?_))))))))))))))))))
 refine c_ (h1:=?_) (h2:=?_)
 rotate_right 1
 focus
  intro c1
  first
  | exact dn c1
  | (
   have d1 := c1;try simp at d1
   refine wc_exit (?_)
   )
 rotate_right 1
 focus
  intro c1
  first
  | exact dn c1
  | (
   have d1 := c1;try simp at d1
   have hi9 : i < u := (by simp [hu] at d1;omega);have hw := wrap_succ (i:=i) (by omega);have q8 := mul_in (F:=F) (u:=i + 1) hF (by omega);have h2 : 2 * (F * 2 ^ i) = F * 2 ^ (i + 1) := (by rw [Nat.pow_succ,← Nat.mul_assoc F,Nat.mul_comm 2]);have hws : IntKind.i64.wrap (2 * ((F * 2 ^ i : Nat) : Int)) = ((F * 2 ^ (i + 1) : Nat) : Int) := (by rw [← h2];exact (wrap_id (by omega) (by omega)).trans (by push_cast;rfl))
   refine wc_skip (?_)
   )
 all_goals first
 | refine aft_exit ?_
 | (
  refine aft_normal ?_
  refine wa_ (wc_block (wc_region (w_ (m_ (h:=w_ (b_ (h:=w_ (a_ (h:=wo_nil (e_ (h:=blk_normal (aft_normal (wc_region (w_ (m_ (h:=w_ (b_ (h:=?_))))))))))))))))))
  refine w_ (a_ (h:=wo_nil (e_ (h:=?_))))
  )
 all_goals first
 | ((refine (ih (i + 1) (by omega) ?_ _ ?_).trans ?_;(focus (first | omega | (simp;done)));(focus (simp only [hws];simp [normE,hw];done));(focus rfl)))
 | (apply end_leaf (ex:=(Ext.exit 2)) 1 (some [1,2,4,6]);(focus (simp [normE];rfl));(focus (obtain rfl : i = u := (by simp [hu] at d1;omega);simp)))
theorem e_rndS (c : Cl) (hp : c.plan.length < 2000000) (hk : okN c.plan) (hx : w_Wks c.workers < 2000000) (hy : w_Frss c.links < 2000000) : oc.call 14 [c.v false] = some (.agg [.int .i64 (rndV c).1,.int .i64 (rndV c).2],[]) := by
 refine fun_s rfl cd14 rfl rfl rfl (by simp;rfl) (by simp;rfl) ?_
 have hl2 := w_Frss_len (l:=c.links)
 have hl3 := lenS_w (l:=c.links)
 have hl4 := inS_w (l:=c.workers)
 refine wa_ (wc_region (w_ (bx (h:=w_ (al (h:=wo_nil (e_ (h:=aft_normal (wa_ (wa_ (wc_region (w_ (l_ (h:=w_ (ca (hc:=e_clS c hp hk hx hy) (h:=w_ (a_ (h:=?_))))))))))))))))))
 refine wo_nil (e_ (h:=aft_normal (wa_ (wc_region (w_ (m_ (h:=w_ (bE (h:=wo_nil (e_ (h:=aft_normal (?_))))))))))))
 refine c_ (h1:=?_) (h2:=?_)
 rotate_right 1
 focus
  intro c1
  first
  | exact dn c1
  | (
   have d1 := c1;try simp at d1
   obtain ⟨q3,q4,q5⟩ := clN_in d1;have q6 := look_len q3;have q7 : (c.plan.filter isU).length ≤ 8 := Nat.le_trans (List.length_filter_le _ _) q6;have q1 : inflN c = (0,((lenS c.links + inS c.workers : Nat) : Int)) := (by unfold inflN;rw [if_pos d1]);have hinf := e_inflS c hp hk hx hy;rw [q1] at hinf
   refine wc_skip (?_)
   )
 rotate_right 1
 focus
  intro c1
  first
  | exact dn c1
  | (
   have d1 := c1;try simp at d1
   refine wa_ (wc_region (w_ (m_ (h:=w_ (bd (h:=w0 (s_ (h:=wo_nil (e_ (h:=aft_normal (wc_ret (?_))))))))))))
   )
 all_goals first
 | refine aft_ret ?_
 | (
  refine aft_normal ?_
  refine wa_ (wc_region (w_ (a_ (h:=wo_nil (e_ (h:=aft_normal (wa_ (wa_ (wc_region (w_ (a_ (h:=wo_nil (e_ (h:=aft_normal (wc_block (?_))))))))))))))))
  refine wc_loop (l_topS c hx (0,0) (by simp) _ (by simp [normE])) ?_
  refine blk_exit (aft_normal (wa_ (wc_region (w_ (l_ (h:=w_ (ca (hc:=hinf) (h:=w_ (fi (h:=w_ (a_ (h:=wo_nil (e_ (h:=aft_normal (wa_ (wa_ (?_)))))))))))))))))
  refine wc_region (w_ (a_ (h:=wo_nil (e_ (h:=aft_normal (wc_block (?_)))))))
  refine wc_loop (l_dbl c (topR 0 (c.workers.drop 0)) (lenS c.links + inS c.workers) (c.plan.filter isU).length hp nodesR_filter q7 (by omega) 0 (by omega) _ (by simp [normE])) ?_
  refine blk_exit (aft_normal (wa_ (wc_region (w_ (f_ (h:=w_ (l_ (h:=w_ (le (h:=w_ (b_ (h:=w_ (b_ (h:=w_ (m_ (h:=w_ (b_ (h:=w_ (b_ (h:=?_))))))))))))))))))))
  refine w_ (m_ (h:=w_ (b_ (h:=w_ (bd (h:=w0 (s_ (h:=wo_nil (e_ (h:=aft_normal (wc_ret (?_))))))))))))
  )
 all_goals (refine fin_ (hr:=(res_cell (tys_ok.zero _ _ rfl) rfl (by simp;rfl) (by rfl) res_nil)) (h:=?_);(focus (clear hk;first | (simp [rndV,rdN, *];done) | (simp [rndV,d1];done))))
theorem law_rnd (c : Cl) (hb : bg_Cl c) : oc.call 5 [c.v false] = some (.bool true,[]) := by
 refine fun_s rfl cd5 rfl rfl rfl (by simp;rfl) (by simp;rfl) ?_
 refine wa_ (wc_region (w_ (bx (h:=w_ (a_ (h:=wo_nil (e_ (h:=aft_normal (wa_ (wc_region (w_ (a_ (h:=wo_nil (e_ (h:=aft_normal (wa_ (?_)))))))))))))))))
 refine wc_region (w_ (l_ (h:=w_ (m_ (h:=w_ (ca (hc:=sz_Cl c 1048576 hb (by omega) (by omega)) (h:=w_ (a_ (h:=wo_nil (e_ (h:=aft_normal (wa_ (wa_ (wc_region (w_ (m_ (h:=w_ (b_ (h:=?_)))))))))))))))))))
 refine wo_nil (e_ (h:=aft_normal (?_)))
 refine c_ (h1:=?_) (h2:=?_)
 rotate_right 1
 focus
  intro c1
  first
  | exact dn c1
  | (
   have d1 := c1;try simp at d1
   obtain ⟨h1,h2,h3,h4⟩ := szC_ok (x:=c) (a:=1048576) (by omega) (by omega)
   refine wc_skip (?_)
   )
 rotate_right 1
 focus
  intro c1
  first
  | exact dn c1
  | (
   have d1 := c1;try simp at d1
   refine wa_ (wc_region (w_ (a_ (h:=wo_nil (e_ (h:=aft_normal (wc_ret (?_))))))))
   )
 all_goals first
 | refine aft_ret ?_
 | (
  refine aft_normal ?_
  refine wa_ (wc_region (w_ (l_ (h:=w_ (ca (hc:=to_Cl c h1 h2 h3 h4) (h:=w_ (ca (hc:=e_rndS c h1 h2 h3 h4) (h:=w_ (al (h:=w0 (s_ (h:=wo_nil (e_ (h:=aft_normal (wa_ (wc_region (w_ (l_ (h:=?_)))))))))))))))))))
  refine w_ (ca (hc:=to_Cl c h1 h2 h3 h4) (h:=w_ (al (h:=w0 (s_ (h:=wo_nil (e_ (h:=aft_normal (wa_ (wc_region (w_ (l_ (h:=w_ (ca (hc:=e_rndI c h1 h2 h3 h4) (h:=w_ (al (h:=w0 (s_ (h:=wo_nil (e_ (h:=?_)))))))))))))))))))))
  refine aft_normal (wa_ (wa_ (wc_region (w_ (l_ (h:=w_ (l_ (h:=w_ (ca (hc:=e_eqIR _ _ _ _) (h:=w_ (u_ (h:=wo_nil (e_ (h:=aft_normal (?_)))))))))))))))
  refine c_ (h1:=?_) (h2:=?_)
  rotate_right 1
  focus
   intro c2
   first
   | exact dn c2
   | (
    have d2 := c2;try simp at d2
    refine wc_skip (?_)
    )
  rotate_right 1
  focus
   intro c2
   first
   | exact dn c2
   | (
    have d2 := c2;try simp at d2
    refine wa_ (wc_region (w_ (a_ (h:=wo_nil (e_ (h:=aft_normal (wc_ret (?_))))))))
    )
  all_goals first
  | refine aft_ret ?_
  | (
   refine aft_normal ?_
   refine wa_ (wa_ (wc_draw (y_ (l_ (h:=ax_ (h:=y_ (l_ (h:=ax_ (h:=y_ (ca (hc:=to_Cl c h1 h2 h3 h4) (h:=ax_ (h:=y_ (ca (hc:=eq_Cl c h1 h2 h3 h4) (h:=ax_ (h:=y_ (u_ (h:=ax_ (h:=wo_nil (ed (h:=aft_normal (?_)))))))))))))))))))))
   refine c_ (h1:=?_) (h2:=?_)
   rotate_right 1
   focus
    intro c3
    first
    | exact dn c3
    | (
     have d3 := c3;try simp at d3
     refine wc_skip (?_)
     )
   rotate_right 1
   focus
    intro c3
    first
    | exact dn c3
    | (
     have d3 := c3;try simp at d3
     refine wa_ (wc_region (w_ (a_ (h:=wo_nil (e_ (h:=aft_normal (wc_ret (?_))))))))
     )
   all_goals first
   | refine aft_ret ?_
   | (
    refine aft_normal ?_
    refine wa_ (wc_region (w_ (a_ (h:=wo_nil (e_ (h:=aft_normal (wc_ret (?_))))))))
    )
   )
  )
 all_goals (refine fin_ (hr:=(res_tmp rfl res_nil)) (h:=?_);(focus (simp)))
end Go.Proofs.YtadaeiahfidodaaGreat.Ev
