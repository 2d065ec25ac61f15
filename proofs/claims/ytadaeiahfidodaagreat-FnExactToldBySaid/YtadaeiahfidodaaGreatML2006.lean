/- Part 6 of the proof that the law named in the last part returns true at every argument: an evaluator of the program, shown sound, and its runs. No further conditions. -/
import Derived.Test.YtadaeiahfidodaaGreatML2005
namespace Go.Proofs.YtadaeiahfidodaaGreat.Ev
open Go
set_option maxRecDepth 100000
set_option linter.unusedSimpArgs false
set_option linter.unusedVariables false
set_option maxHeartbeats 2000000
abbrev frZ : V := .agg [.int .i64 0,.int .i64 0,.int .i64 0,.int .i64 0,.lst true 2 [],.lst true 3 []]
theorem grow_pos (e : List (Nat × V)) (o : List (Nat × Ob)) (k : Int) (hk : 0 < k) (hk2 : k < 2000000) : oc.call.i 87 [.emp true,.int .i64 k] ⟨e,o,33⟩ 33 = some (.ref 609 0 0,⟨e,(609,⟨false,false,6,List.replicate k.toNat frZ,0⟩) :: o,833⟩) := by
 have h0 : IntKind.i64.wrap (0 - 0) = 0 := by decide
 have hw : IntKind.i64.wrap (k - IntKind.i64.wrap (0 - 0)) = k := by rw [h0,Int.sub_zero];exact wrap_id (by omega) (by omega)
 apply inl_s (by rw [cf_pl];rfl) cd87 rfl rfl (by simp;rfl)
 refine wa_ (wc_region (w_ (aN (h:=wo_nil (e_ (h:=aft_normal (wa_ (wa_ (wc_region (w_ (m_ (h:=w_ (b_ (h:=wo_nil (e_ (h:=aft_normal (?_)))))))))))))))))
 refine c_ (h1:=?_) (h2:=?_)
 rotate_right 1
 focus
  intro c1
  first
  | exact dn c1
  | (
   have d1 := c1;try simp at d1
   refine wc_skip (?_)
   )
 rotate_right 1
 focus
  intro c1
  first
  | exact dn c1
  | (
   have d1 := c1;try simp at d1
   exfalso;omega
   )
 all_goals first
 | (
  refine aft_normal ?_
  refine wa_ (wa_ (wc_region (w_ (m_ (h:=w_ (m_ (h:=w_ (cc (h:=w_ (m_ (h:=w_ (le (h:=w_ (b_ (h:=w_ (b_ (h:=w_ (a_ (h:=wo_nil (e_ (h:=aft_normal (wa_ (wc_region (w_ (m_ (h:=w_ (b_ (h:=wo_nil (e_ (h:=aft_normal (?_)))))))))))))))))))))))))))))))
  refine c_ (h1:=?_) (h2:=?_)
  rotate_right 1
  focus
   intro c2
   first
   | exact dn c2
   | (
    have d2 := c2;try simp at d2
    exfalso;rw [hw] at c2;simp at c2;omega
    )
  rotate_right 1
  focus
   intro c2
   first
   | exact dn c2
   | (
    have d2 := c2;try simp at d2
    refine wc_region (w_ (m_ (h:=w_ (m_ (h:=w_ (cc (h:=w_ (sl (h:=w_ (m_ (h:=w_ (?_))))))))))))
    simp only [hw];refine apZ (h:=?_)
    refine w_ (m_ (h:=w_ (le (h:=w_ (sl (h:=w_ (a_ (h:=wo_nil (e_ (h:=?_))))))))))
    )
  all_goals first
  | (
   refine aft_normal ?_
   refine wa_ (wc_region (w_ (m_ (h:=w_ (a_ (h:=wo_nil (e_ (h:=aft_normal (wc_ret (?_))))))))))
   )
  )
 all_goals (exact ⟨by simp,_,rfl,rfl,rfl⟩)
theorem grow_nil (e : List (Nat × V)) (o : List (Nat × Ob)) : oc.call.i 87 [.emp true,.int .i64 0] ⟨e,o,33⟩ 33 = some (.emp true,⟨e,o,513⟩) := by
 have h0 : IntKind.i64.wrap (0 - 0) = 0 := by decide
 have hw : IntKind.i64.wrap (0 - IntKind.i64.wrap (0 - 0)) = 0 := by rw [h0];decide
 apply inl_s (by rw [cf_pl];rfl) cd87 rfl rfl (by simp;rfl)
 refine wa_ (wc_region (w_ (aN (h:=wo_nil (e_ (h:=aft_normal (wa_ (wa_ (wc_region (w_ (m_ (h:=w_ (b_ (h:=wo_nil (e_ (h:=aft_normal (?_)))))))))))))))))
 refine c_ (h1:=?_) (h2:=?_)
 rotate_right 1
 focus
  intro c1
  first
  | exact dn c1
  | (
   have d1 := c1;try simp at d1
   refine wc_skip (?_)
   )
 rotate_right 1
 focus
  intro c1
  first
  | exact dn c1
  | (
   have d1 := c1;try simp at d1
   exfalso;omega
   )
 all_goals first
 | (
  refine aft_normal ?_
  refine wa_ (wa_ (wc_region (w_ (m_ (h:=w_ (m_ (h:=w_ (cc (h:=w_ (m_ (h:=w_ (le (h:=w_ (b_ (h:=w_ (b_ (h:=w_ (a_ (h:=wo_nil (e_ (h:=aft_normal (wa_ (wc_region (w_ (m_ (h:=w_ (b_ (h:=wo_nil (e_ (h:=aft_normal (?_)))))))))))))))))))))))))))))))
  refine c_ (h1:=?_) (h2:=?_)
  rotate_right 1
  focus
   intro c2
   first
   | exact dn c2
   | (
    have d2 := c2;try simp at d2
    refine wc_skip (?_)
    )
  rotate_right 1
  focus
   intro c2
   first
   | exact dn c2
   | (
    have d2 := c2;try simp at d2
    exfalso;rw [hw] at c2;simp at c2
    )
  all_goals first
  | (
   refine aft_normal ?_
   refine wa_ (wc_region (w_ (m_ (h:=w_ (a_ (h:=wo_nil (e_ (h:=aft_normal (wc_ret (?_))))))))))
   )
  )
 all_goals (exact ⟨by simp,_,rfl,rfl,rfl⟩)
theorem wS_cutL {α : Type} {f : α → Nat} {l : List α} {i : Nat} {x : α} (h : l[i]? = some x) : wS f (l.take (i + 1)) = wS f (l.take i) + f x := by
  induction l generalizing i with
  | nil => simp at h
  | cons y r ih =>
    cases i with
    | zero => simp at h;subst h;simp
    | succ i => simp at h;simp only [List.take_succ_cons,wS_cons];rw [ih h];omega
theorem wS_takeL {α : Type} {f : α → Nat} {l : List α} {i : Nat} : wS f (l.take i) ≤ wS f l := by
  induction l generalizing i with
  | nil => simp
  | cons y r ih =>
    cases i with
    | zero => simp
    | succ i => have := ih (i:=i);simp only [List.take_succ_cons,wS_cons];omega
def lenS (l : List (List Fr)) : Nat := wS List.length l
theorem lenS_cut {l : List (List Fr)} {i : Nat} {x : List Fr} (h : l[i]? = some x) : lenS (l.take (i + 1)) = lenS (l.take i) + x.length := wS_cutL h
theorem lenS_take {l : List (List Fr)} {i : Nat} : lenS (l.take i) ≤ lenS l := wS_takeL
theorem lenS_flat {l : List (List Fr)} : l.flatten.length = lenS l := by
  induction l with
  | nil => rfl
  | cons x r ih => simp only [List.flatten_cons,List.length_append,ih,lenS,wS_cons]
theorem flat_cut {l : List (List Fr)} {i : Nat} {x : List Fr} (h : l[i]? = some x) : (l.take (i + 1)).flatten = (l.take i).flatten ++ x := by
  rw [List.take_add_one,h];simp
theorem l_catSz (ls : List (List Fr)) (hl : ls.length < 2000000) (hs0 : lenS ls < 2000000) : ∀ i : Nat,(i ≤ ls.length) → ∀ s,normE 1 (some [0,3,9,10,11]) s = ⟨[(0,.lst false 0 (frss false ls)),(3,.int .i64 (lenS (ls.take i) : Nat)),(9,.lst false 0 (frss false ls)),(10,.int .i64 ls.length),(11,.int .i64 i)],[],1⟩ →
 oc.loop 52 3 s = some (.exit 0,⟨[(0,.lst false 0 (frss false ls)),(3,.int .i64 (lenS ls : Nat))],[],1⟩) := by
 refine loop_ind (σ:=Nat) (fun i => ls.length - i) _ (fun i => ⟨[(0,.lst false 0 (frss false ls)),(3,.int .i64 (lenS (ls.take i) : Nat)),(9,.lst false 0 (frss false ls)),(10,.int .i64 ls.length),(11,.int .i64 i)],[],1⟩) _ ?_
 intro i hi ih s hs
 refine loop_s cd52 rfl rfl hs ?_
 refine wa_ (wc_region (w_ (b_ (h:=wo_nil (e_ (h:=aft_normal (wa_ (?_))))))))
 refine c_ (h1:=?_) (h2:=?_)
 rotate_right 1
 focus
  intro c1
  first
  | exact dn c1
  | (
   have d1 := c1;try simp at d1
   refine wc_exit (?_)
   )
 rotate_right 1
 focus
  intro c1
  first
  | exact dn c1
  | (
   have d1 := c1;try simp at d1
   have hw := wrap_succ (i:=i) (by omega);obtain ⟨c,hx,e1,g1⟩ := frss_cut (t:=false) (l:=ls) (i:=i) (by omega);have hcut := lenS_cut hx;have hle := lenS_take (l:=ls) (i:=i + 1);have hws : IntKind.i64.wrap ((lenS (ls.take i) : Nat) + (c.length : Int)) = (lenS (ls.take (i + 1)) : Nat) := (wrap_id (by omega) (by omega)).trans (by omega)
   refine wc_skip (?_)
   )
 all_goals first
 | refine aft_exit ?_
 | (
  refine aft_normal ?_
  refine wa_ (wc_block (wa_ (wc_region (w_ (x_ (h:=w_ (l_ (h:=w_ (a_ (h:=wo_nil (e_ (h:=aft_normal (wa_ (wc_region (w_ (m_ (h:=w_ (m_ (h:=w_ (le (h:=w_ (b_ (h:=w_ (a_ (h:=wo_nil (e_ (h:=aft_normal (wa_ (wc_region (w_ (m_ (h:=w_ (b_ (h:=wo_nil (e_ (h:=aft_normal (?_)))))))))))))))))))))))))))))))))))))
  refine c_ (h1:=?_) (h2:=?_)
  rotate_right 1
  focus
   intro c2
   first
   | exact dn c2
   | (
    have d2 := c2;try simp at d2
    refine wc_skip (?_)
    )
  rotate_right 1
  focus
   intro c2
   first
   | exact dn c2
   | (
    have d2 := c2;try simp at d2
    exfalso;clear ih hs;omega
    )
  all_goals refine blk_normal ?_
  all_goals first
  | (
   refine aft_normal ?_
   refine wc_region (w_ (b_ (h:=w_ (m_ (h:=wo_nil (e_ (h:=?_)))))))
   )
  )
 all_goals first
 | (refine (ih (i + 1) (by omega) ?_ _ ?_).trans ?_;(focus (first | omega | (simp;done) | (simp;omega)));(focus (simp [normE,hw,hws];done));(focus (rfl)))
 | (apply end_leaf (ex:=(Ext.exit 0)) 1 (some [0,3]);(focus (simp [normE];rfl));(focus (rw [List.take_of_length_le (by omega)])))
theorem l_cat (ls : List (List Fr)) (hl : ls.length < 2000000) (hs0 : lenS ls < 2000000) : ∀ i : Nat,(i ≤ ls.length) → ∀ s,normE 1 (some [6,25,26,27]) s = ⟨[(6,.ref 1 0 (lenS (ls.take i))),(25,.lst false 0 (frss false ls)),(26,.int .i64 ls.length),(27,.int .i64 i)],[(1,⟨false,false,6,frs false (ls.take i).flatten,0⟩)],2⟩ →
 oc.loop 52 11 s = some (.exit 2,⟨[(6,.ref 1 0 (lenS ls))],[(1,⟨false,false,6,frs false ls.flatten,0⟩)],2⟩) := by
 refine loop_ind (σ:=Nat) (fun i => ls.length - i) _ (fun i => ⟨[(6,.ref 1 0 (lenS (ls.take i))),(25,.lst false 0 (frss false ls)),(26,.int .i64 ls.length),(27,.int .i64 i)],[(1,⟨false,false,6,frs false (ls.take i).flatten,0⟩)],2⟩) _ ?_
 intro i hi ih s hs
 refine loop_s cd52 rfl rfl hs ?_
 have hT := lenS_take (l:=ls) (i:=i)
 generalize hF : (ls.take i).flatten = F
 have hN : lenS (ls.take i) = F.length := by rw [← hF];exact lenS_flat.symm
 rw [hN] at hT ⊢
 refine wa_ (wc_region (w_ (b_ (h:=wo_nil (e_ (h:=aft_normal (wa_ (?_))))))))
 refine c_ (h1:=?_) (h2:=?_)
 rotate_right 1
 focus
  intro c1
  first
  | exact dn c1
  | (
   have d1 := c1;try simp at d1
   refine wc_exit (?_)
   )
 rotate_right 1
 focus
  intro c1
  first
  | exact dn c1
  | (
   have d1 := c1;try simp at d1
   have hw := wrap_succ (i:=i) (by omega);obtain ⟨c,hx,e1,g1⟩ := frss_cut (t:=false) (l:=ls) (i:=i) (by omega);have hcut := lenS_cut hx;rw [hN] at hcut;have hle := lenS_take (l:=ls) (i:=i + 1);have hfl := flat_cut hx;rw [hF] at hfl
   refine wc_skip (?_)
   )
 all_goals first
 | refine aft_exit ?_
 | (
  refine aft_normal ?_
  refine wa_ (wc_block (wa_ (wc_region (w_ (x_ (h:=w_ (l_ (h:=w_ (a_ (h:=wo_nil (e_ (h:=aft_normal (wc_region (w_ (m_ (h:=w_ (m_ (h:=w_ (ap (h:=w_ (a_ (h:=wo_nil (e_ (h:=blk_normal (aft_normal (wc_region (w_ (b_ (h:=w_ (m_ (h:=wo_nil (e_ (h:=?_)))))))))))))))))))))))))))))))))
  )
 all_goals first
 | (refine (ih (i + 1) (by omega) ?_ _ ?_).trans ?_;(focus (first | omega | (simp;done) | (simp;omega)));(focus (simp [normE,hw,hcut,hfl];done));(focus (rfl)))
 | (apply end_leaf (ex:=(Ext.exit 2)) 1 (some [6]);(focus (simp [normE];rfl));(focus (rw [List.take_of_length_le (by omega)] at hF hN;subst hF;simp [hN])))
theorem cat_nil (ls : List (List Fr)) (hl : ls.length < 2000000) (hs0 : lenS ls < 2000000) (hne : 0 < ls.length) (L : List Fr) (hL : ls.flatten = L) : ∀ s,normE 1 (some [6,25,26,27]) s = ⟨[(6,.emp true),(25,.lst false 0 (frss false ls)),(26,.int .i64 ls.length),(27,.int .i64 0)],[],1⟩ → oc.loop 52 11 s = some (.exit 2,⟨[(6,.ref 1 0 L.length)],[(1,⟨false,false,6,frs false L,0⟩)],2⟩) := by
 intro s hs
 obtain ⟨c,hx,e1,g1⟩ := frss_cut (t:=false) (l:=ls) (i:=0) hne
 change (frss false ls)[(0 : Int).toNat]? = _ at g1
 have hcut := lenS_cut hx
 have hfl := flat_cut hx
 have hle := lenS_take (l:=ls) (i:=0 + 1)
 have hw : IntKind.i64.wrap (0 + 1) = 1 := by decide
 have hw1 : IntKind.i64.wrap 1 = 1 := by decide
 have hcl : c.length < 2000000 := by omega
 simp [lenS] at hcut hfl
 refine loop_s cd52 rfl rfl hs ?_
 refine wa_ (wc_region (w_ (b_ (h:=wo_nil (e_ (h:=aft_normal (wa_ (?_))))))))
 refine c_ (h1:=?_) (h2:=?_)
 rotate_right 1
 focus
  intro c1
  first
  | exact dn c1
  | (
   have d1 := c1;try simp at d1
   exfalso;rw [decide_eq_false_iff_not] at c1;omega
   )
 rotate_right 1
 focus
  intro c1
  first
  | exact dn c1
  | (
   have d1 := c1;try simp at d1
   refine wc_skip (?_)
   )
 all_goals first
 | refine aft_exit ?_
 | (
  refine aft_normal ?_
  refine wa_ (wc_block (wa_ (wc_region (w_ (x_ (h:=w_ (l_ (h:=w_ (a_ (h:=wo_nil (e_ (h:=aft_normal (wc_region (w_ (m_ (h:=w_ (m_ (h:=w_ (ap (h:=w_ (a_ (h:=wo_nil (e_ (h:=blk_normal (aft_normal (wc_region (w_ (b_ (h:=w_ (m_ (h:=wo_nil (e_ (h:=?_)))))))))))))))))))))))))))))))))
  )
 all_goals (refine (l_cat ls hl hs0 1 (by omega) _ ?_).trans (by rw [← lenS_flat,hL]);(simp [normE,hw,hw1,lenS,hcut,hfl];done))
theorem cat_pos (ls : List (List Fr)) (k : Nat) (hl : ls.length < 2000000) (hs0 : lenS ls < 2000000) (hne : 0 < ls.length) (L : List Fr) (hL : ls.flatten = L) : ∀ s,normE 1 (some [6,25,26,27]) s = ⟨[(6,.ref 1 0 0),(25,.lst false 0 (frss false ls)),(26,.int .i64 ls.length),(27,.int .i64 0)],[(1,⟨false,false,6,List.replicate k frZ,0⟩)],2⟩ → oc.loop 52 11 s = some (.exit 2,⟨[(6,.ref 1 0 L.length)],[(1,⟨false,false,6,frs false L,0⟩)],2⟩) := by
 intro s hs
 obtain ⟨c,hx,e1,g1⟩ := frss_cut (t:=false) (l:=ls) (i:=0) hne
 change (frss false ls)[(0 : Int).toNat]? = _ at g1
 have hcut := lenS_cut hx
 have hfl := flat_cut hx
 have hle := lenS_take (l:=ls) (i:=0 + 1)
 have hw : IntKind.i64.wrap (0 + 1) = 1 := by decide
 have hw1 : IntKind.i64.wrap 1 = 1 := by decide
 have hcl : c.length < 2000000 := by omega
 simp [lenS] at hcut hfl
 refine loop_s cd52 rfl rfl hs ?_
 refine wa_ (wc_region (w_ (b_ (h:=wo_nil (e_ (h:=aft_normal (wa_ (?_))))))))
 refine c_ (h1:=?_) (h2:=?_)
 rotate_right 1
 focus
  intro c1
  first
  | exact dn c1
  | (
   have d1 := c1;try simp at d1
   exfalso;rw [decide_eq_false_iff_not] at c1;omega
   )
 rotate_right 1
 focus
  intro c1
  first
  | exact dn c1
  | (
   have d1 := c1;try simp at d1
   refine wc_skip (?_)
   )
 all_goals first
 | refine aft_exit ?_
 | (
  refine aft_normal ?_
  refine wa_ (wc_block (wa_ (wc_region (w_ (x_ (h:=w_ (l_ (h:=w_ (a_ (h:=wo_nil (e_ (h:=aft_normal (wc_region (w_ (m_ (h:=w_ (m_ (h:=w_ (ap (h:=w_ (a_ (h:=wo_nil (e_ (h:=blk_normal (aft_normal (wc_region (w_ (b_ (h:=w_ (m_ (h:=wo_nil (e_ (h:=?_)))))))))))))))))))))))))))))))))
  )
 all_goals (refine (l_cat ls hl hs0 1 (by omega) _ ?_).trans (by rw [← lenS_flat,hL]);(simp [normE,hw,hw1,lenS,hcut,hfl];done))
theorem e_cat (ls : List (List Fr)) (hl : ls.length < 2000000) (hs0 : lenS ls < 2000000) (hne : 0 < ls.length) : oc.call 52 [.lst false 0 (frss false ls)] = some (.lst true 6 (frs false ls.flatten),[]) := by
  obtain ⟨L,hL⟩ : ∃ L,ls.flatten = L := ⟨_,rfl⟩
  rw [hL]
  rcases Nat.eq_zero_or_pos (lenS ls) with hz | hz
  · refine fun_s rfl cd52 rfl rfl rfl (by simp;rfl) (by simp;rfl) ?_
    refine wa_ (wc_region (w_ (aN (h:=wo_nil (e_ (h:=aft_normal (wa_ (wc_region (w_ (a_ (h:=wo_nil (e_ (h:=aft_normal (wa_ (wa_ (wc_region (w_ (m_ (h:=w_ (le (h:=w_ (m_ (h:=wo_nil (e_ (h:=aft_normal (wc_block (?_)))))))))))))))))))))))))))
    refine wc_loop (l_catSz ls hl hs0 0 (by omega) _ (by simp [normE,lenS])) ?_
    refine blk_exit (aft_normal (wa_ (wc_region (w_ (m_ (h:=?_))))))
    first | refine i_ (hc:=(by simp only [hz];exact grow_nil _ _)) (h:=?_)
    refine w_ (a_ (h:=wo_nil (e_ (h:=aft_normal (wa_ (wa_ (wc_region (w_ (m_ (h:=w_ (le (h:=w_ (m_ (h:=wo_nil (e_ (h:=aft_normal (wc_block (?_))))))))))))))))))
    refine wc_loop (cat_nil ls hl hs0 hne L hL _ (by simp [normE])) ?_
    refine blk_exit (aft_normal (wa_ (wc_region (w_ (m_ (h:=w_ (a_ (h:=wo_nil (e_ (h:=aft_normal (wc_ret (?_))))))))))))
    all_goals (refine fin_ (hr:=(res_tmp rfl res_nil)) (h:=?_);(focus (simp)))
  · refine fun_s rfl cd52 rfl rfl rfl (by simp;rfl) (by simp;rfl) ?_
    refine wa_ (wc_region (w_ (aN (h:=wo_nil (e_ (h:=aft_normal (wa_ (wc_region (w_ (a_ (h:=wo_nil (e_ (h:=aft_normal (wa_ (wa_ (wc_region (w_ (m_ (h:=w_ (le (h:=w_ (m_ (h:=wo_nil (e_ (h:=aft_normal (wc_block (?_)))))))))))))))))))))))))))
    refine wc_loop (l_catSz ls hl hs0 0 (by omega) _ (by simp [normE,lenS])) ?_
    refine blk_exit (aft_normal (wa_ (wc_region (w_ (m_ (h:=?_))))))
    first | refine i_ (hc:=grow_pos _ _ (lenS ls : Nat) (by omega) (by omega)) (h:=?_)
    refine w_ (a_ (h:=wo_nil (e_ (h:=aft_normal (wa_ (wa_ (wc_region (w_ (m_ (h:=w_ (le (h:=w_ (m_ (h:=wo_nil (e_ (h:=aft_normal (wc_block (?_))))))))))))))))))
    refine wc_loop (cat_pos ls (lenS ls) hl hs0 hne L hL _ (by simp [normE])) ?_
    refine blk_exit (aft_normal (wa_ (wc_region (w_ (m_ (h:=w_ (a_ (h:=wo_nil (e_ (h:=aft_normal (wc_ret (?_))))))))))))
    all_goals (refine fin_ (hr:=(res_tmp rfl res_nil)) (h:=?_);(focus (simp)))
def idxL (p : List Fr → Bool) (i : Nat) : List (List Fr) → Int
  | [] => -1
  | x :: r => if p x = true then i else idxL p (i + 1) r
theorem idxL_any {p : List Fr → Bool} : ∀ {l : List (List Fr)} {i : Nat},decide (0 ≤ idxL p i l) = l.any p
  | [],i => by simp [idxL]
  | x :: r,i => by
    unfold idxL
    by_cases h : p x = true
    · simp [h]
    · simp only [if_neg h,List.any_cons,idxL_any (l:=r) (i:=i + 1)];simp [h]
theorem l_ix_Links (l : List (List Fr))  (p : List Fr → Bool) (hl : l.length < 2000000) (hc : ∀ x ∈ l,oc.call 50 [.lst false 0 (frs false x)] = some (.bool (p x),[])) : ∀ i : Nat,i ≤ l.length → ∀ s,normE 2 (some [0,1,7,8]) s = ⟨[(0,.lst false 0 (frss false l)),(1,.clo 50 []),(7,.int .i64 l.length),(8,.int .i64 i)],[],2⟩ →
 oc.loop 83 2 s = some (if 0 ≤ idxL p i (l.drop i) then (.ret,⟨[(4,.int .i64 (idxL p i (l.drop i)))],[],2⟩) else (.exit 0,⟨[],[],2⟩)) := by
 refine loop_ind (fun i => l.length - i) _ (fun i => ⟨[(0,.lst false 0 (frss false l)),(1,.clo 50 []),(7,.int .i64 l.length),(8,.int .i64 i)],[],2⟩) _ ?_
 intro i hi ih s hs
 refine loop_s cd83 rfl rfl hs ?_
 refine wa_ (wc_region (w_ (b_ (h:=wo_nil (e_ (h:=aft_normal (wa_ (?_))))))))
 refine c_ (h1:=?_) (h2:=?_)
 rotate_right 1
 focus
  intro c1
  first
  | exact dn c1
  | (
   have d1 := c1;try simp at d1
   refine wc_exit (?_)
   )
 rotate_right 1
 focus
  intro c1
  first
  | exact dn c1
  | (
   have d1 := c1;try simp at d1
   have hw := wrap_succ (i:=i) (by omega);obtain ⟨x,hx,e1,g1⟩ := frss_cut (t:=false) (l:=l) (i:=i) (by omega);have hq := hc x (List.mem_of_getElem? hx)
   refine wc_skip (?_)
   )
 all_goals first
 | refine aft_exit ?_
 | (
  refine aft_normal ?_
  refine wa_ (wc_block (wa_ (wc_region (w_ (m_ (h:=w_ (a_ (h:=wo_nil (e_ (h:=aft_normal (wa_ (wc_region (w_ (m_ (h:=w_ (m_ (h:=w_ (m_ (h:=w_ (x_ (h:=w_ (l_ (h:=w_ (?_))))))))))))))))))))))))
  refine k_callS rfl rfl (by rw [cf_in];rfl) rfl (by rw [cf_md];rfl) (by simp [cf_md,mdT];rfl) (by first | rfl | simp [*]) hq rfl (by simp;rfl) (by simp [cf_md,mdT]) (by simp;rfl) (by simp;rfl) ?_
  refine wo_nil (e_ (h:=aft_normal (?_)))
  refine c_ (h1:=?_) (h2:=?_)
  rotate_right 1
  focus
   intro c2
   first
   | exact dn c2
   | (
    have d2 := c2;try simp at d2
    refine wc_skip (?_)
    )
  rotate_right 1
  focus
   intro c2
   first
   | exact dn c2
   | (
    have d2 := c2;try simp at d2
    refine wa_ (wc_region (w_ (m_ (h:=w_ (a_ (h:=wo_nil (e_ (h:=aft_normal (wc_ret (?_))))))))))
    )
  all_goals first | refine blk_normal ?_ | refine blk_ret ?_
  all_goals first
  | refine aft_ret ?_
  | (
   refine aft_normal ?_
   refine wc_region (w_ (b_ (h:=w_ (m_ (h:=wo_nil (e_ (h:=?_)))))))
   )
  )
 all_goals first
 | (refine (ih (i + 1) (by omega) ?_ _ ?_).trans ?_;(focus (first | omega | (simp;done) | (simp;omega)));(focus (simp [normE,hw];done));(focus (rw [e1];simp only [idxL,if_neg (show ¬ p x = true by simp [d2])])))
 | (apply end_leaf (ex:=Ext.ret) 2 (some [4]);(focus (simp [normE];rfl));(focus (rw [e1];simp [idxL,d2])))
 | (apply end_leaf (ex:=(Ext.exit 0)) 2 (some [4]);(focus (simp [normE];rfl));(focus (rw [List.drop_eq_nil_of_le (by omega)];simp [idxL])))
theorem e_ix_Links (l : List (List Fr))  (p : List Fr → Bool) (hl : l.length < 2000000) (hc : ∀ x ∈ l,oc.call 50 [.lst false 0 (frs false x)] = some (.bool (p x),[])) : oc.call 83 [.lst false 0 (frss false l),.clo 50 []] = some (.int .i64 (if 0 ≤ idxL p 0 l then idxL p 0 l else -1),[]) := by
 refine fun_s rfl cd83 rfl rfl rfl (by simp;rfl) (by simp;rfl) ?_
 refine wa_ (wc_region (w_ (a_ (h:=wo_nil (e_ (h:=aft_normal (wa_ (wa_ (wc_region (w_ (m_ (h:=w_ (le (h:=w_ (m_ (h:=wo_nil (e_ (h:=aft_normal (wc_block (?_))))))))))))))))))))
 refine wc_loopI (l_ix_Links l  p hl hc 0 (by omega) _ (by simp [normE])) ?_ ?_
 rotate_right 1
 focus
  intro c1
  skip
 rotate_right 1
 focus
  intro c1
  skip
 all_goals first | refine blk_ret ?_ | refine blk_exit ?_
 all_goals first
 | refine aft_ret ?_
 | (
  refine aft_normal ?_
  refine wa_ (wc_region (w_ (a_ (h:=wo_nil (e_ (h:=aft_normal (wc_ret (?_))))))))
  )
 all_goals (refine fin_ (hr:=(res_tmp rfl res_nil)) (h:=?_);(focus (clear hc;first | (simp_all;done) | (simp_all <;> omega))))
theorem e_any_Links (l : List (List Fr))  (p : List Fr → Bool) (hl : l.length < 2000000) (hc : ∀ x ∈ l,oc.call 50 [.lst false 0 (frs false x)] = some (.bool (p x),[])) : oc.call 49 [.lst false 0 (frss false l),.clo 50 []] = some (.bool (l.any p),[]) := by
 refine fun_s rfl cd49 rfl rfl rfl (by simp;rfl) (by simp;rfl) ?_
 refine wa_ (wc_region (w_ (a_ (h:=wo_nil (e_ (h:=aft_normal (wa_ (wc_region (w_ (m_ (h:=w_ (m_ (h:=w_ (ca (hc:=e_ix_Links l  p hl hc) (h:=w_ (b_ (h:=w_ (a_ (h:=wo_nil (e_ (h:=aft_normal (wc_ret (?_)))))))))))))))))))))))
 all_goals (refine fin_ (hr:=(res_tmp rfl res_nil)) (h:=?_);(focus (clear hc;rw [← idxL_any (i:=0)];simp;grind)))
@[simp] theorem Fr.ne_und (t : Bool) (x : Fr) : (x.v t = V.und) = False := by simp [Fr.v]
def wksR (pl : List Nd) : List Wk → Int
  | [] => 0
  | w :: r => if wkC pl w = 0 then wksR pl r else wkC pl w
theorem wksR_0 {pl : List Nd} {w : Wk} {r : List Wk} (h : wkC pl w = 0) : wksR pl (w :: r) = wksR pl r := by rw [wksR,if_pos h]
theorem wksR_1 {pl : List Nd} {w : Wk} {r : List Wk} (h : ¬ wkC pl w = 0) : wksR pl (w :: r) = wkC pl w := by rw [wksR,if_neg h]
def frsR (pl : List Nd) : List Fr → Int
  | [] => 0
  | f :: r => if frC pl f = 0 then frsR pl r else frC pl f
theorem frsR_0 {pl : List Nd} {f : Fr} {r : List Fr} (h : frC pl f = 0) : frsR pl (f :: r) = frsR pl r := by rw [frsR,if_pos h]
theorem frsR_1 {pl : List Nd} {f : Fr} {r : List Fr} (h : ¬ frC pl f = 0) : frsR pl (f :: r) = frC pl f := by rw [frsR,if_neg h]
theorem frsR_app {pl : List Nd} {a b : List Fr} : frsR pl (a ++ b) = if frsR pl a = 0 then frsR pl b else frsR pl a := by
  induction a with
  | nil => simp [frsR]
  | cons x r ih =>
    by_cases h : frC pl x = 0
    · rw [List.cons_append,frsR_0 h,frsR_0 h,ih]
    · rw [List.cons_append,frsR_1 h,frsR_1 h,if_neg h]
def manyF (l : List (List Fr)) : Bool := l.any fun x => decide (60 < x.length)
theorem manyF_cons {x : List Fr} {l : List (List Fr)} : manyF (x :: l) = (decide (60 < x.length) || manyF l) := by simp [manyF]
def clC (c : Cl) : Int :=
  if (1 ≤ c.workers.length ∧ c.workers.length ≤ 3) ∧ c.links.length = c.workers.length * c.workers.length ∧ manyF c.links = false then (if wksR c.plan c.workers = 0 then frsR c.plan c.links.flatten else wksR c.plan c.workers) else 2
def clN (c : Cl) : Int := if (lookN c.plan).2 = 0 then clC c else (lookN c.plan).2
theorem sq_in {n : Nat} (h : n ≤ 3) : n * n ≤ 9 := Nat.le_trans (Nat.mul_le_mul h h) (by omega)
theorem sq_pos {n : Nat} (h : 1 ≤ n) : 1 ≤ n * n := Nat.le_trans (by omega) (Nat.mul_le_mul h h)
theorem lenS_w {l : List (List Fr)} : lenS l ≤ w_Frss l := by
  unfold lenS w_Frss
  induction l with
  | nil => simp
  | cons x r ih => have := w_Frs_len (l:=x);simp only [wS_cons,List.length_cons];omega
theorem flat_w {l : List (List Fr)} {f : Fr} (h : f ∈ l.flatten) : w_Fr f ≤ w_Frss l := by
  obtain ⟨x,hx,hf⟩ := List.mem_flatten.1 h
  have h1 := w_Frss_mem hx
  have h2 := w_Frs_mem hf
  omega
theorem e_many (l : List Fr) (h : l.length < 2000000) : oc.call 50 [.lst false 0 (frs false l)] = some (.bool (decide (60 < l.length)),[]) := by
 refine fun_s rfl cd50 rfl rfl rfl (by simp;rfl) (by simp;rfl) ?_
 refine wa_ (wc_region (w_ (a_ (h:=wo_nil (e_ (h:=aft_normal (wa_ (wc_region (w_ (m_ (h:=w_ (le (h:=w_ (b_ (h:=w_ (a_ (h:=wo_nil (e_ (h:=aft_normal (wc_ret (?_)))))))))))))))))))))
 all_goals (refine fin_ (hr:=(res_tmp rfl res_nil)) (h:=?_);(focus (simp;omega)))
theorem l_cl1 (c : Cl) (hp : c.plan.length < 2000000) (hk : okN c.plan) (h0 : (lookN c.plan).2 = 0) (hx : w_Wks c.workers < 2000000) : ∀ i : Nat,(i ≤ c.workers.length) → ∀ s,normE 1 (some [1,3,42,43,44]) s = ⟨[(1,.ptr 1 0 []),(3,.ref 2 0 (widN c.plan).length),(42,.lst false 0 (wks false c.workers)),(43,.int .i64 c.workers.length),(44,.int .i64 i)],[(1,⟨true,false,3,[c.v false],0⟩),(2,⟨false,false,1,ints (widN c.plan),0⟩)],3⟩ →
 oc.loop 23 8 s = some (if wksR c.plan (c.workers.drop i) = 0 then (.exit 0,⟨[(1,.ptr 1 0 []),(3,.ref 2 0 (widN c.plan).length)],[(1,⟨true,false,3,[c.v false],0⟩),(2,⟨false,false,1,ints (widN c.plan),0⟩)],3⟩) else (.ret,⟨[(1,.ptr 1 0 []),(2,.int .i64 (wksR c.plan (c.workers.drop i))),(3,.ref 2 0 (widN c.plan).length)],[(1,⟨true,false,3,[c.v false],0⟩),(2,⟨false,false,1,ints (widN c.plan),0⟩)],3⟩)) := by
 refine loop_ind (σ:=Nat) (fun i => c.workers.length - i) _ (fun i => ⟨[(1,.ptr 1 0 []),(3,.ref 2 0 (widN c.plan).length),(42,.lst false 0 (wks false c.workers)),(43,.int .i64 c.workers.length),(44,.int .i64 i)],[(1,⟨true,false,3,[c.v false],0⟩),(2,⟨false,false,1,ints (widN c.plan),0⟩)],3⟩) _ ?_
 intro i hi ih s hs
 refine loop_s cd23 rfl rfl hs ?_
 have hlen := w_Wks_len (l:=c.workers)
 refine wa_ (wc_region (w_ (b_ (h:=wo_nil (e_ (h:=aft_normal (wa_ (?_))))))))
 refine c_ (h1:=?_) (h2:=?_)
 rotate_right 1
 focus
  intro c1
  first
  | exact dn c1
  | (
   have d1 := c1;try simp at d1
   refine wc_exit (?_)
   )
 rotate_right 1
 focus
  intro c1
  first
  | exact dn c1
  | (
   have d1 := c1;try simp at d1
   have hw := wrap_succ (i:=i) (by omega);obtain ⟨b,hb,e1,g1⟩ := wks_cut (t:=false) (l:=c.workers) (i:=i) (by omega);have hbw := w_Wks_mem (List.mem_of_getElem? hb)
   refine wc_skip (?_)
   )
 all_goals first
 | refine aft_exit ?_
 | (
  refine aft_normal ?_
  refine wa_ (wc_block (wa_ (wc_region (w_ (x_ (h:=w_ (l_ (h:=w_ (al (h:=w0 (s_ (h:=wo_nil (e_ (h:=aft_normal (wa_ (wc_region (w_ (f_ (h:=w_ (l_ (h:=w_ (m_ (h:=w_ (l_ (h:=w_ (ca (hc:=e_wkI2 c.plan b hp hk h0 (by omega)) (h:=w_ (a_ (h:=wo_nil (e_ (h:=aft_normal (wa_ (wc_region (w_ (m_ (h:=w_ (bE (h:=wo_nil (e_ (h:=aft_normal (?_)))))))))))))))))))))))))))))))))))))))))
  refine c_ (h1:=?_) (h2:=?_)
  rotate_right 1
  focus
   intro c2
   first
   | exact dn c2
   | (
    have d2 := c2;try simp at d2
    refine wc_skip (?_)
    )
  rotate_right 1
  focus
   intro c2
   first
   | exact dn c2
   | (
    have d2 := c2;try simp at d2
    refine wa_ (wc_region (w_ (m_ (h:=w_ (a_ (h:=wo_nil (e_ (h:=aft_normal (wc_ret (?_))))))))))
    )
  all_goals first | refine blk_normal ?_ | refine blk_ret ?_
  all_goals first
  | refine aft_ret ?_
  | (
   refine aft_normal ?_
   refine wc_region (w_ (b_ (h:=w_ (m_ (h:=wo_nil (e_ (h:=?_)))))))
   )
  )
 all_goals first
 | (refine (ih (i + 1) (by omega) ?_ _ ?_).trans ?_;(focus (first | omega | (simp;done) | (simp;omega)));(focus (simp [normE,hw];done));(focus (rw [e1,wksR_0 d2])))
 | (apply end_leaf (ex:=Ext.ret) 1 (some [1,2,3]);(focus (simp [normE];rfl));(focus (rw [e1,wksR_1 d2];simp [d2])))
 | (apply end_leaf (ex:=(Ext.exit 0)) 1 (some [1,2,3]);(focus (simp [normE];rfl));(focus (rw [List.drop_eq_nil_of_le (by omega)];simp [wksR])))
theorem l_cl2 (c : Cl) (L : List Fr) (hp : c.plan.length < 2000000) (hk : okN c.plan) (h0 : (lookN c.plan).2 = 0) (hL : L.length < 2000000) (hx : ∀ f ∈ L,w_Fr f < 2000000) : ∀ i : Nat,(i ≤ L.length) → ∀ s,normE 1 (some [1,3,59,60,61]) s = ⟨[(1,.ptr 1 0 []),(3,.ref 2 0 (widN c.plan).length),(59,.ref 3 0 L.length),(60,.int .i64 L.length),(61,.int .i64 i)],[(1,⟨true,false,3,[c.v false],0⟩),(2,⟨false,false,1,ints (widN c.plan),0⟩),(3,⟨false,false,6,frs false L,0⟩)],4⟩ →
 oc.loop 23 15 s = some (if frsR c.plan (L.drop i) = 0 then (.exit 2,⟨[],[],1⟩) else (.ret,⟨[(2,.int .i64 (frsR c.plan (L.drop i)))],[],1⟩)) := by
 refine loop_ind (σ:=Nat) (fun i => L.length - i) _ (fun i => ⟨[(1,.ptr 1 0 []),(3,.ref 2 0 (widN c.plan).length),(59,.ref 3 0 L.length),(60,.int .i64 L.length),(61,.int .i64 i)],[(1,⟨true,false,3,[c.v false],0⟩),(2,⟨false,false,1,ints (widN c.plan),0⟩),(3,⟨false,false,6,frs false L,0⟩)],4⟩) _ ?_
 intro i hi ih s hs
 refine loop_s cd23 rfl rfl hs ?_
 refine wa_ (wc_region (w_ (b_ (h:=wo_nil (e_ (h:=aft_normal (wa_ (?_))))))))
 refine c_ (h1:=?_) (h2:=?_)
 rotate_right 1
 focus
  intro c1
  first
  | exact dn c1
  | (
   have d1 := c1;try simp at d1
   refine wc_exit (?_)
   )
 rotate_right 1
 focus
  intro c1
  first
  | exact dn c1
  | (
   have d1 := c1;try simp at d1
   have hw := wrap_succ (i:=i) (by omega);obtain ⟨b,hb,e1,g1⟩ := frs_cut (t:=false) (l:=L) (i:=i) (by omega);have hbw := hx b (List.mem_of_getElem? hb)
   refine wc_skip (?_)
   )
 all_goals first
 | refine aft_exit ?_
 | (
  refine aft_normal ?_
  refine wa_ (wc_block (wa_ (wc_region (w_ (x_ (h:=w_ (l_ (h:=w_ (al (h:=w0 (s_ (h:=wo_nil (e_ (h:=aft_normal (wa_ (wc_region (w_ (f_ (h:=w_ (l_ (h:=w_ (m_ (h:=w_ (l_ (h:=w_ (ca (hc:=e_frI2 c.plan b hp hk h0 hbw) (h:=w_ (a_ (h:=wo_nil (e_ (h:=aft_normal (wa_ (wc_region (w_ (m_ (h:=w_ (bE (h:=wo_nil (e_ (h:=aft_normal (?_)))))))))))))))))))))))))))))))))))))))))
  refine c_ (h1:=?_) (h2:=?_)
  rotate_right 1
  focus
   intro c2
   first
   | exact dn c2
   | (
    have d2 := c2;try simp at d2
    refine wc_skip (?_)
    )
  rotate_right 1
  focus
   intro c2
   first
   | exact dn c2
   | (
    have d2 := c2;try simp at d2
    refine wa_ (wc_region (w_ (m_ (h:=w_ (a_ (h:=wo_nil (e_ (h:=aft_normal (wc_ret (?_))))))))))
    )
  all_goals first | refine blk_normal ?_ | refine blk_ret ?_
  all_goals first
  | refine aft_ret ?_
  | (
   refine aft_normal ?_
   refine wc_region (w_ (b_ (h:=w_ (m_ (h:=wo_nil (e_ (h:=?_)))))))
   )
  )
 all_goals first
 | (refine (ih (i + 1) (by omega) ?_ _ ?_).trans ?_;(focus (first | omega | (simp;done) | (simp;omega)));(focus (simp [normE,hw];done));(focus (rw [e1,frsR_0 d2])))
 | (apply end_leaf (ex:=Ext.ret) 1 (some [2]);(focus (simp [normE];rfl));(focus (rw [e1,frsR_1 d2];simp [d2])))
 | (apply end_leaf (ex:=(Ext.exit 2)) 1 (some [2]);(focus (simp [normE];rfl));(focus (rw [List.drop_eq_nil_of_le (by omega)];simp [frsR])))
theorem e_clI (c : Cl) (hp : c.plan.length < 2000000) (hk : okN c.plan) (hx : w_Wks c.workers < 2000000) (hy : w_Frss c.links < 2000000) : oc.call 23 [c.v false] = some (.int .i64 (clN c),[]) := by
 refine fun_s rfl cd23 rfl rfl rfl (by simp;rfl) (by simp;rfl) ?_
 have hl1 := w_Wks_len (l:=c.workers)
 have hl2 := w_Frss_len (l:=c.links)
 have hl3 := lenS_w (l:=c.links)
 have hl4 := lenS_flat (l:=c.links)
 have hl5 : ∀ f ∈ c.links.flatten,w_Fr f < 2000000 := fun f hf => by have := flat_w hf;omega
 have hsq : c.workers.length ≤ 3 → IntKind.i64.wrap ((c.workers.length : Int) * c.workers.length) = ((c.workers.length * c.workers.length : Nat) : Int) := fun h => by have := sq_in h;rw [wrap_id (by push_cast at *;omega) (by push_cast at *;omega)];push_cast;rfl
 refine wa_ (wc_region (w_ (bx (h:=w_ (a_ (h:=wo_nil (e_ (h:=aft_normal (wa_ (wc_region (w_ (f_ (h:=w_ (l_ (h:=w_ (ca (hc:=e_looked c.plan hp hk) (h:=w_ (m_ (h:=w_ (ex (h:=w_ (ex (h:=w_ (a_ (h:=w_ (a_ (h:=wo_nil (e_ (h:=aft_normal (wa_ (wa_ (wc_region (w_ (m_ (h:=w_ (bE (h:=wo_nil (e_ (h:=aft_normal (?_))))))))))))))))))))))))))))))))))))))))
 refine c_ (h1:=?_) (h2:=?_)
 rotate_right 1
 focus
  intro c1
  first
  | exact dn c1
  | (
   have d1 := c1;try simp at d1
   refine wc_skip (?_)
   )
 rotate_right 1
 focus
  intro c1
  first
  | exact dn c1
  | (
   have d1 := c1;try simp at d1
   refine wa_ (wc_region (w_ (m_ (h:=w_ (a_ (h:=wo_nil (e_ (h:=aft_normal (wc_ret (?_))))))))))
   )
 all_goals first
 | refine aft_ret ?_
 | (
  refine aft_normal ?_
  refine wa_ (wc_region (w_ (f_ (h:=w_ (l_ (h:=w_ (le (h:=w_ (a_ (h:=wo_nil (e_ (h:=aft_normal (wa_ (wa_ (wc_region (w_ (m_ (h:=w_ (ca (hc:=e_in _ _ _) (h:=w_ (u_ (h:=w_ (m_ (h:=?_))))))))))))))))))))))))
  refine gw_ (h1:=?_) (h2:=?_)
  rotate_right 1
  focus
   intro c2
   first
   | exact dn c2
   | (
    have d2 := c2;try simp at d2
    refine go_ (h:=go_ (h:=go_ (h:=go_ (h:=go_ (h:=go_ (h:=go_ (h:=?_)))))))
    )
  rotate_right 1
  focus
   intro c2
   first
   | exact dn c2
   | (
    have d2 := c2;try simp at d2
    refine g_ (h:=w_ (f_ (h:=g_ (h:=w_ (l_ (h:=g_ (h:=w_ (le (h:=g_ (h:=w_ (m_ (h:=g_ (h:=w_ (m_ (h:=g_ (h:=w_ (b_ (h:=g_ (h:=w_ (bE (h:=?_)))))))))))))))))))))
    )
  all_goals
   refine w_ (pk (h:=w_ (m_ (h:=?_))))
   refine gw_ (h1:=?_) (h2:=?_)
   rotate_right 1
   focus
    intro c3
    first
    | exact dn c3
    | (
     have d3 := c3;try simp at d3
     refine go_ (h:=go_ (h:=go_ (h:=?_)))
     )
   rotate_right 1
   focus
    intro c3
    first
    | exact dn c3
    | (
     have d3 := c3;try simp at d3
     refine g_ (h:=w_ (f_ (h:=g_ (h:=w_ (l_ (h:=g_ (h:=w_ (ca (hc:=e_any_Links c.links (fun x => decide (60 < x.length)) (by omega) (fun x hx => e_many x (by have := w_Frss_mem hx;have := w_Frs_len (l:=x);omega))) (h:=?_)))))))))
     )
   all_goals
    refine w_ (pk (h:=wo_nil (e_ (h:=?_))))
  all_goals first
  | (
   refine aft_normal ?_
   refine c_ (h1:=?_) (h2:=?_)
   rotate_right 1
   focus
    intro c4
    first
    | exact dn c4
    | (
     have d4 := c4;try simp at d4
     have hm3 : 1 ≤ c.workers.length ∧ c.workers.length ≤ 3 := (by simp [inI] at d2;omega);have hsq2 := hsq hm3.2;have hnn := sq_pos hm3.1;have hll : c.links.length = c.workers.length * c.workers.length := (by rw [hsq2] at d3;exact_mod_cast d3);have hne : 0 < c.links.length := (by omega);have hmf : manyF c.links = false := (by simp only [manyF];simpa using d4)
     refine wc_skip (?_)
     )
   rotate_right 1
   focus
    intro c4
    first
    | exact dn c4
    | (
     have d4 := c4;try simp at d4
     have hbad : ¬ ((1 ≤ c.workers.length ∧ c.workers.length ≤ 3) ∧ c.links.length = c.workers.length * c.workers.length ∧ manyF c.links = false) := (by rintro ⟨ha,hb,hc⟩;have hsq2 := hsq ha.2;first | (simp [inI] at d2;omega) | (rw [hsq2,hb] at d3;simp at d3;done) | (simp [manyF] at hc d4;obtain ⟨x,hx1,hx2⟩ := d4;have := hc x hx1;omega))
     refine wa_ (wc_region (w_ (a_ (h:=wo_nil (e_ (h:=aft_normal (wc_ret (?_))))))))
     )
   )
  all_goals first
  | refine aft_ret ?_
  | (
   refine aft_normal ?_
   refine wa_ (wa_ (wc_region (w_ (f_ (h:=w_ (l_ (h:=w_ (le (h:=w_ (m_ (h:=wo_nil (e_ (h:=aft_normal (wc_block (?_)))))))))))))))
   refine wc_loopI (l_cl1 c hp hk d1 hx 0 (by omega) _ (by simp [normE,widN])) ?_ ?_
   rotate_right 1
   focus
    intro c5
    first
    | exact dn c5
    | (
     have d5 := c5;try simp at d5
     skip
     )
   rotate_right 1
   focus
    intro c5
    first
    | exact dn c5
    | (
     have d5 := c5;try simp at d5
     skip
     )
   all_goals first | refine blk_ret ?_ | refine blk_exit ?_
   all_goals first
   | refine aft_ret ?_
   | (
    refine aft_normal ?_
    refine wa_ (wa_ (wc_region (w_ (f_ (h:=w_ (l_ (h:=w_ (ca (hc:=e_cat c.links (by omega) (by omega) hne) (h:=w_ (le (h:=w_ (m_ (h:=wo_nil (e_ (h:=aft_normal (wc_block (?_)))))))))))))))))
    refine wc_loopI (l_cl2 c c.links.flatten hp hk d1 (by omega) hl5 0 (by omega) _ (by simp [normE,widN])) ?_ ?_
    rotate_right 1
    focus
     intro c6
     first
     | exact dn c6
     | (
      have d6 := c6;try simp at d6
      skip
      )
    rotate_right 1
    focus
     intro c6
     first
     | exact dn c6
     | (
      have d6 := c6;try simp at d6
      skip
      )
    all_goals first | refine blk_ret ?_ | refine blk_exit ?_
    all_goals first
    | refine aft_ret ?_
    | (
     refine aft_normal ?_
     refine wa_ (wc_region (w_ (a_ (h:=wo_nil (e_ (h:=aft_normal (wc_ret (?_))))))))
     )
    )
   )
  )
 all_goals (refine fin_ (hr:=(res_tmp rfl res_nil)) (h:=?_);(focus (clear hk hx hy hl5;first | (simp [clN,clC,hbad, *];done) | (simp only [clN,clC,if_pos (And.intro hm3 (And.intro hll hmf))];simp at *;simp [*];done) | (simp [clN, *];done))))
theorem l_clS1 (c : Cl) (m : Int) (hx : w_Frss c.links < 2000000) : ∀ i : Nat,(i ≤ c.links.length) → ∀ s,normE 1 (some [1,4,5]) s = ⟨[(1,.ptr 1 0 []),(4,.int .i64 m),(5,.int .i64 i)],[(1,⟨true,false,3,[c.v false],0⟩)],2⟩ →
 oc.loop 19 8 s = some (if manyF (c.links.drop i) = true then (.ret,⟨[(1,.ptr 1 0 []),(2,.int .i64 2),(4,.int .i64 m)],[(1,⟨true,false,3,[c.v false],0⟩)],2⟩) else (.exit 0,⟨[(1,.ptr 1 0 []),(4,.int .i64 m)],[(1,⟨true,false,3,[c.v false],0⟩)],2⟩)) := by
 refine loop_ind (σ:=Nat) (fun i => c.links.length - i) _ (fun i => ⟨[(1,.ptr 1 0 []),(4,.int .i64 m),(5,.int .i64 i)],[(1,⟨true,false,3,[c.v false],0⟩)],2⟩) _ ?_
 intro i hi ih s hs
 refine loop_s cd19 rfl rfl hs ?_
 have hlen := w_Frss_len (l:=c.links)
 refine wa_ (wa_ (wc_region (w_ (m_ (h:=w_ (f_ (h:=w_ (l_ (h:=w_ (le (h:=w_ (b_ (h:=wo_nil (e_ (h:=aft_normal (?_))))))))))))))))
 refine c_ (h1:=?_) (h2:=?_)
 rotate_right 1
 focus
  intro c1
  first
  | exact dn c1
  | (
   have d1 := c1;try simp at d1
   refine wc_exit (?_)
   )
 rotate_right 1
 focus
  intro c1
  first
  | exact dn c1
  | (
   have d1 := c1;try simp at d1
   have hw := wrap_succ (i:=i) (by omega);obtain ⟨b,hb,e1,g1⟩ := frss_cut (t:=false) (l:=c.links) (i:=i) (by omega)
   refine wc_skip (?_)
   )
 all_goals first
 | refine aft_exit ?_
 | (
  refine aft_normal ?_
  refine wa_ (wc_block (wa_ (wc_region (w_ (f_ (h:=w_ (l_ (h:=w_ (m_ (h:=w_ (x_ (h:=w_ (l_ (h:=w_ (le (h:=w_ (b_ (h:=wo_nil (e_ (h:=aft_normal (?_)))))))))))))))))))))
  refine c_ (h1:=?_) (h2:=?_)
  rotate_right 1
  focus
   intro c2
   first
   | exact dn c2
   | (
    have d2 := c2;try simp at d2
    refine wc_skip (?_)
    )
  rotate_right 1
  focus
   intro c2
   first
   | exact dn c2
   | (
    have d2 := c2;try simp at d2
    refine wa_ (wc_region (w_ (a_ (h:=wo_nil (e_ (h:=aft_normal (wc_ret (?_))))))))
    )
  all_goals first | refine blk_normal ?_ | refine blk_ret ?_
  all_goals first
  | refine aft_ret ?_
  | (
   refine aft_normal ?_
   refine wc_region (w_ (m_ (h:=w_ (b_ (h:=w_ (a_ (h:=wo_nil (e_ (h:=?_)))))))))
   )
  )
 all_goals first
 | (refine (ih (i + 1) (by omega) ?_ _ ?_).trans ?_;(focus (first | omega | (simp;done) | (simp;omega)));(focus (simp [normE,hw];done));(focus (rw [e1,manyF_cons,decide_eq_false (by omega)];simp)))
 | (apply end_leaf (ex:=Ext.ret) 1 (some [1,2,4]);(focus (simp [normE];rfl));(focus (rw [e1,manyF_cons,decide_eq_true (by omega)];simp)))
 | (apply end_leaf (ex:=(Ext.exit 0)) 1 (some [1,2,4]);(focus (simp [normE];rfl));(focus (rw [List.drop_eq_nil_of_le (by omega)];simp [manyF])))
theorem l_clS2 (c : Cl) (hp : c.plan.length < 2000000) (hk : okN c.plan) (h0 : (lookN c.plan).2 = 0) (hx : w_Wks c.workers < 2000000) : ∀ i : Nat,(i ≤ c.workers.length) → ∀ s,normE 1 (some [1,4,6]) s = ⟨[(1,.ptr 1 0 []),(4,.int .i64 c.workers.length),(6,.int .i64 i)],[(1,⟨true,false,3,[c.v false],0⟩)],2⟩ →
 oc.loop 19 13 s = some (if wksR c.plan (c.workers.drop i) = 0 then (.exit 2,⟨[(1,.ptr 1 0 [])],[(1,⟨true,false,3,[c.v false],0⟩)],2⟩) else (.ret,⟨[(1,.ptr 1 0 []),(2,.int .i64 (wksR c.plan (c.workers.drop i)))],[(1,⟨true,false,3,[c.v false],0⟩)],2⟩)) := by
 refine loop_ind (σ:=Nat) (fun i => c.workers.length - i) _ (fun i => ⟨[(1,.ptr 1 0 []),(4,.int .i64 c.workers.length),(6,.int .i64 i)],[(1,⟨true,false,3,[c.v false],0⟩)],2⟩) _ ?_
 intro i hi ih s hs
 refine loop_s cd19 rfl rfl hs ?_
 have hlen := w_Wks_len (l:=c.workers)
 refine wa_ (wa_ (wc_region (w_ (m_ (h:=w_ (m_ (h:=w_ (b_ (h:=wo_nil (e_ (h:=aft_normal (?_))))))))))))
 refine c_ (h1:=?_) (h2:=?_)
 rotate_right 1
 focus
  intro c1
  first
  | exact dn c1
  | (
   have d1 := c1;try simp at d1
   refine wc_exit (?_)
   )
 rotate_right 1
 focus
  intro c1
  first
  | exact dn c1
  | (
   have d1 := c1;try simp at d1
   have hw := wrap_succ (i:=i) (by omega);obtain ⟨b,hb,e1,g1⟩ := wks_cut (t:=false) (l:=c.workers) (i:=i) (by omega);have hbw := w_Wks_mem (List.mem_of_getElem? hb);have hwk : wkN c.plan b = wkC c.plan b := (by unfold wkN;rw [if_pos h0])
   refine wc_skip (?_)
   )
 all_goals first
 | refine aft_exit ?_
 | (
  refine aft_normal ?_
  refine wa_ (wc_block (wa_ (wc_draw (y_ (f_ (h:=ax_ (h:=y_ (l_ (h:=ax_ (h:=y_ (f_ (h:=ax_ (h:=y_ (l_ (h:=ax_ (h:=y_ (m_ (h:=ax_ (h:=y_ (x_ (h:=ax_ (h:=y_ (l_ (h:=ax_ (h:=y_ (ca (hc:=hwk ▸ e_workS c.plan b hp hk (by omega)) (h:=ax_ (h:=y_ (a_ (h:=ax_ (h:=wo_nil (ed (h:=aft_normal (wa_ (wc_region (w_ (m_ (h:=w_ (bE (h:=wo_nil (e_ (h:=aft_normal (?_)))))))))))))))))))))))))))))))))))))))))))
  refine c_ (h1:=?_) (h2:=?_)
  rotate_right 1
  focus
   intro c2
   first
   | exact dn c2
   | (
    have d2 := c2;try simp at d2
    refine wc_skip (?_)
    )
  rotate_right 1
  focus
   intro c2
   first
   | exact dn c2
   | (
    have d2 := c2;try simp at d2
    refine wa_ (wc_region (w_ (m_ (h:=w_ (a_ (h:=wo_nil (e_ (h:=aft_normal (wc_ret (?_))))))))))
    )
  all_goals first | refine blk_normal ?_ | refine blk_ret ?_
  all_goals first
  | refine aft_ret ?_
  | (
   refine aft_normal ?_
   refine wc_region (w_ (m_ (h:=w_ (b_ (h:=w_ (a_ (h:=wo_nil (e_ (h:=?_)))))))))
   )
  )
 all_goals first
 | (refine (ih (i + 1) (by omega) ?_ _ ?_).trans ?_;(focus (first | omega | (simp;done) | (simp;omega)));(focus (simp [normE,hw];done));(focus (rw [e1,wksR_0 d2])))
 | (apply end_leaf (ex:=Ext.ret) 1 (some [1,2]);(focus (simp [normE];rfl));(focus (rw [e1,wksR_1 d2];simp [d2])))
 | (apply end_leaf (ex:=(Ext.exit 2)) 1 (some [1,2]);(focus (simp [normE];rfl));(focus (rw [List.drop_eq_nil_of_le (by omega)];simp [wksR])))
theorem l_clS4 (c : Cl) (k : Nat) (l : List Fr) (hl : c.links[k]? = some l) (hlg : (frss false c.links)[(k : Int).toNat]? = some (.lst false 0 (frs false l))) (hp : c.plan.length < 2000000) (hk : okN c.plan) (h0 : (lookN c.plan).2 = 0) (hx : w_Frs l < 2000000) : ∀ i : Nat,(i ≤ l.length) → ∀ s,normE 1 (some [1,8,9]) s = ⟨[(1,.ptr 1 0 []),(8,.int .i64 k),(9,.int .i64 i)],[(1,⟨true,false,3,[c.v false],0⟩)],2⟩ →
 oc.loop 19 22 s = some (if frsR c.plan (l.drop i) = 0 then (.exit 6,⟨[(1,.ptr 1 0 []),(8,.int .i64 k)],[(1,⟨true,false,3,[c.v false],0⟩)],2⟩) else (.ret,⟨[(1,.ptr 1 0 []),(2,.int .i64 (frsR c.plan (l.drop i))),(8,.int .i64 k)],[(1,⟨true,false,3,[c.v false],0⟩)],2⟩)) := by
 refine loop_ind (σ:=Nat) (fun i => l.length - i) _ (fun i => ⟨[(1,.ptr 1 0 []),(8,.int .i64 k),(9,.int .i64 i)],[(1,⟨true,false,3,[c.v false],0⟩)],2⟩) _ ?_
 intro i hi ih s hs
 refine loop_s cd19 rfl rfl hs ?_
 have hlen := w_Frs_len (l:=l)
 refine wa_ (wa_ (wc_region (w_ (m_ (h:=w_ (f_ (h:=w_ (l_ (h:=w_ (m_ (h:=w_ (x_ (h:=w_ (l_ (h:=w_ (le (h:=w_ (b_ (h:=wo_nil (e_ (h:=aft_normal (?_))))))))))))))))))))))
 refine c_ (h1:=?_) (h2:=?_)
 rotate_right 1
 focus
  intro c1
  first
  | exact dn c1
  | (
   have d1 := c1;try simp at d1
   refine wc_exit (?_)
   )
 rotate_right 1
 focus
  intro c1
  first
  | exact dn c1
  | (
   have d1 := c1;try simp at d1
   have hw := wrap_succ (i:=i) (by omega);obtain ⟨b,hb,e1,g1⟩ := frs_cut (t:=false) (l:=l) (i:=i) (by omega);have hbw := w_Frs_mem (List.mem_of_getElem? hb);have hfr : frN0 c.plan b = frC c.plan b := (by unfold frN0;rw [if_pos h0])
   refine wc_skip (?_)
   )
 all_goals first
 | refine aft_exit ?_
 | (
  refine aft_normal ?_
  refine wa_ (wc_block (wa_ (wc_draw (y_ (f_ (h:=ax_ (h:=y_ (l_ (h:=ax_ (h:=y_ (f_ (h:=ax_ (h:=y_ (l_ (h:=ax_ (h:=y_ (m_ (h:=ax_ (h:=y_ (x_ (h:=ax_ (h:=y_ (l_ (h:=ax_ (h:=y_ (m_ (h:=ax_ (h:=y_ (x_ (h:=ax_ (h:=y_ (l_ (h:=ax_ (h:=y_ (ca (hc:=hfr ▸ e_frameS c.plan b hp hk (by omega)) (h:=ax_ (h:=y_ (a_ (h:=ax_ (h:=wo_nil (ed (h:=aft_normal (wa_ (wc_region (w_ (m_ (h:=w_ (bE (h:=wo_nil (e_ (h:=aft_normal (?_))))))))))))))))))))))))))))))))))))))))))))))))))))
  refine c_ (h1:=?_) (h2:=?_)
  rotate_right 1
  focus
   intro c2
   first
   | exact dn c2
   | (
    have d2 := c2;try simp at d2
    refine wc_skip (?_)
    )
  rotate_right 1
  focus
   intro c2
   first
   | exact dn c2
   | (
    have d2 := c2;try simp at d2
    refine wa_ (wc_region (w_ (m_ (h:=w_ (a_ (h:=wo_nil (e_ (h:=aft_normal (wc_ret (?_))))))))))
    )
  all_goals first | refine blk_normal ?_ | refine blk_ret ?_
  all_goals first
  | refine aft_ret ?_
  | (
   refine aft_normal ?_
   refine wc_region (w_ (m_ (h:=w_ (b_ (h:=w_ (a_ (h:=wo_nil (e_ (h:=?_)))))))))
   )
  )
 all_goals first
 | (refine (ih (i + 1) (by omega) ?_ _ ?_).trans ?_;(focus (first | omega | (simp;done) | (simp;omega)));(focus (simp [normE,hw];done));(focus (rw [e1,frsR_0 d2])))
 | (apply end_leaf (ex:=Ext.ret) 1 (some [1,2,8]);(focus (simp [normE];rfl));(focus (rw [e1,frsR_1 d2];simp [d2])))
 | (apply end_leaf (ex:=(Ext.exit 6)) 1 (some [1,2,8]);(focus (simp [normE];rfl));(focus (rw [List.drop_eq_nil_of_le (by omega)];simp [frsR])))
theorem l_clS3 (c : Cl) (hp : c.plan.length < 2000000) (hk : okN c.plan) (h0 : (lookN c.plan).2 = 0) (hx : w_Frss c.links < 2000000) : ∀ i : Nat,(i ≤ c.links.length) → ∀ s,normE 1 (some [1,8]) s = ⟨[(1,.ptr 1 0 []),(8,.int .i64 i)],[(1,⟨true,false,3,[c.v false],0⟩)],2⟩ →
 oc.loop 19 19 s = some (if frsR c.plan (c.links.drop i).flatten = 0 then (.exit 4,⟨[],[],1⟩) else (.ret,⟨[(2,.int .i64 (frsR c.plan (c.links.drop i).flatten))],[],1⟩)) := by
 refine loop_ind (σ:=Nat) (fun i => c.links.length - i) _ (fun i => ⟨[(1,.ptr 1 0 []),(8,.int .i64 i)],[(1,⟨true,false,3,[c.v false],0⟩)],2⟩) _ ?_
 intro i hi ih s hs
 refine loop_s cd19 rfl rfl hs ?_
 have hlen := w_Frss_len (l:=c.links)
 refine wa_ (wa_ (wc_region (w_ (m_ (h:=w_ (f_ (h:=w_ (l_ (h:=w_ (le (h:=w_ (b_ (h:=wo_nil (e_ (h:=aft_normal (?_))))))))))))))))
 refine c_ (h1:=?_) (h2:=?_)
 rotate_right 1
 focus
  intro c1
  first
  | exact dn c1
  | (
   have d1 := c1;try simp at d1
   refine wc_exit (?_)
   )
 rotate_right 1
 focus
  intro c1
  first
  | exact dn c1
  | (
   have d1 := c1;try simp at d1
   have hw := wrap_succ (i:=i) (by omega);obtain ⟨b,hb,e1,g1⟩ := frss_cut (t:=false) (l:=c.links) (i:=i) (by omega);have hbw := w_Frss_mem (List.mem_of_getElem? hb);have hfa : frsR c.plan (c.links.drop i).flatten = if frsR c.plan b = 0 then frsR c.plan (c.links.drop (i + 1)).flatten else frsR c.plan b := (by rw [e1,List.flatten_cons,frsR_app])
   refine wc_skip (?_)
   )
 all_goals first
 | refine aft_exit ?_
 | (
  refine aft_normal ?_
  refine wa_ (wc_block (wa_ (wc_region (w_ (a_ (h:=wo_nil (e_ (h:=aft_normal (wc_block (?_))))))))))
  refine wc_loopI (l_clS4 c i b hb g1 hp hk h0 (by omega) 0 (by omega) _ (by simp [normE])) ?_ ?_
  rotate_right 1
  focus
   intro c2
   first
   | exact dn c2
   | (
    have d2 := c2;try simp at d2
    skip
    )
  rotate_right 1
  focus
   intro c2
   first
   | exact dn c2
   | (
    have d2 := c2;try simp at d2
    skip
    )
  all_goals first | refine blk_ret ?_ | refine blk_exit ?_
  all_goals first | refine blk_normal ?_ | refine blk_ret ?_
  all_goals first
  | refine aft_ret ?_
  | (
   refine aft_normal ?_
   refine wc_region (w_ (m_ (h:=w_ (b_ (h:=w_ (a_ (h:=wo_nil (e_ (h:=?_)))))))))
   )
  )
 all_goals first
 | (refine (ih (i + 1) (by omega) ?_ _ ?_).trans ?_;(focus (first | omega | (simp;done) | (simp;omega)));(focus (simp [normE,hw];done));(focus (have hb0 : frsR c.plan b = 0 := (by simpa using d2);rw [hfa,if_pos hb0])))
 | (apply end_leaf (ex:=Ext.ret) 1 (some [2]);(focus (simp [normE];rfl));(focus (have hb0 : ¬ frsR c.plan b = 0 := (by simpa using d2);rw [hfa,if_neg hb0];simp [hb0])))
 | (apply end_leaf (ex:=(Ext.exit 4)) 1 (some [2]);(focus (simp [normE];rfl));(focus (rw [List.drop_eq_nil_of_le (by omega)];simp [frsR])))
theorem e_clS (c : Cl) (hp : c.plan.length < 2000000) (hk : okN c.plan) (hx : w_Wks c.workers < 2000000) (hy : w_Frss c.links < 2000000) : oc.call 19 [c.v false] = some (.int .i64 (clN c),[]) := by
 refine fun_s rfl cd19 rfl rfl rfl (by simp;rfl) (by simp;rfl) ?_
 have hl1 := w_Wks_len (l:=c.workers)
 have hl2 := w_Frss_len (l:=c.links)
 have hsq : c.workers.length ≤ 3 → IntKind.i64.wrap ((c.workers.length : Int) * c.workers.length) = ((c.workers.length * c.workers.length : Nat) : Int) := fun h => by have := sq_in h;rw [wrap_id (by push_cast at *;omega) (by push_cast at *;omega)];push_cast;rfl
 refine wa_ (wc_region (w_ (bx (h:=w_ (a_ (h:=wo_nil (e_ (h:=aft_normal (wa_ (wa_ (wc_region (w_ (f_ (h:=w_ (l_ (h:=w_ (ca (hc:=e_planS c.plan hp hk) (h:=w_ (a_ (h:=wo_nil (e_ (h:=aft_normal (wa_ (wc_region (w_ (m_ (h:=w_ (bE (h:=wo_nil (e_ (h:=aft_normal (?_))))))))))))))))))))))))))))))))
 refine c_ (h1:=?_) (h2:=?_)
 rotate_right 1
 focus
  intro c1
  first
  | exact dn c1
  | (
   have d1 := c1;try simp at d1
   refine wc_skip (?_)
   )
 rotate_right 1
 focus
  intro c1
  first
  | exact dn c1
  | (
   have d1 := c1;try simp at d1
   refine wa_ (wc_region (w_ (m_ (h:=w_ (a_ (h:=wo_nil (e_ (h:=aft_normal (wc_ret (?_))))))))))
   )
 all_goals first
 | refine aft_ret ?_
 | (
  refine aft_normal ?_
  refine wa_ (wc_region (w_ (f_ (h:=w_ (l_ (h:=w_ (le (h:=w_ (a_ (h:=wo_nil (e_ (h:=aft_normal (wa_ (wa_ (wc_region (w_ (m_ (h:=w_ (b_ (h:=w_ (m_ (h:=?_))))))))))))))))))))))
  refine gw_ (h1:=?_) (h2:=?_)
  rotate_right 1
  focus
   intro c2
   first
   | exact dn c2
   | (
    have d2 := c2;try simp at d2
    refine go_ (h:=go_ (h:=?_))
    )
  rotate_right 1
  focus
   intro c2
   first
   | exact dn c2
   | (
    have d2 := c2;try simp at d2
    refine g_ (h:=w_ (m_ (h:=g_ (h:=w_ (b_ (h:=?_))))))
    )
  all_goals
   refine w_ (pk (h:=w_ (m_ (h:=?_))))
   refine gw_ (h1:=?_) (h2:=?_)
   rotate_right 1
   focus
    intro c3
    first
    | exact dn c3
    | (
     have d3 := c3;try simp at d3
     refine go_ (h:=go_ (h:=go_ (h:=go_ (h:=go_ (h:=go_ (h:=go_ (h:=?_)))))))
     )
   rotate_right 1
   focus
    intro c3
    first
    | exact dn c3
    | (
     have d3 := c3;try simp at d3
     refine g_ (h:=w_ (f_ (h:=g_ (h:=w_ (l_ (h:=g_ (h:=w_ (le (h:=g_ (h:=w_ (m_ (h:=g_ (h:=w_ (m_ (h:=g_ (h:=w_ (b_ (h:=g_ (h:=w_ (bE (h:=?_)))))))))))))))))))))
     )
   all_goals
    refine w_ (pk (h:=wo_nil (e_ (h:=?_))))
  all_goals first
  | (
   refine aft_normal ?_
   refine c_ (h1:=?_) (h2:=?_)
   rotate_right 1
   focus
    intro c4
    first
    | exact dn c4
    | (
     have d4 := c4;try simp at d4
     have hm3 : 1 ≤ c.workers.length ∧ c.workers.length ≤ 3 := (by clear d2 d3 d4;simp only [wks_len,decide_eq_true_eq,decide_eq_false_iff_not,Bool.not_true,Bool.not_false] at c2 c3;omega);have hsq2 := hsq hm3.2;have hll : c.links.length = c.workers.length * c.workers.length := (by have q4 := c4;simp only [hsq2,frss_len,wks_len] at q4;simp at q4;exact_mod_cast q4)
     refine wc_skip (?_)
     )
   rotate_right 1
   focus
    intro c4
    first
    | exact dn c4
    | (
     have d4 := c4;try simp at d4
     have hbad : ¬ ((1 ≤ c.workers.length ∧ c.workers.length ≤ 3) ∧ c.links.length = c.workers.length * c.workers.length ∧ manyF c.links = false) := (by rintro ⟨ha,hb,hc⟩;have hsq2 := hsq ha.2;simp only [wks_len,frss_len,hsq2,hb,decide_eq_true_eq,decide_eq_false_iff_not,Bool.not_true,Bool.not_false] at *;first | omega | (simp at c3;omega) | (simp at c4;omega) | simp_all)
     refine wa_ (wc_region (w_ (a_ (h:=wo_nil (e_ (h:=aft_normal (wc_ret (?_))))))))
     )
   )
  all_goals first
  | refine aft_ret ?_
  | (
   refine aft_normal ?_
   refine wa_ (wa_ (wc_region (w_ (a_ (h:=wo_nil (e_ (h:=aft_normal (wc_block (?_)))))))))
   refine wc_loopI (l_clS1 c c.workers.length hy 0 (by omega) _ (by simp [normE])) ?_ ?_
   rotate_right 1
   focus
    intro c5
    first
    | exact dn c5
    | (
     have d5 := c5;try simp at d5
     skip
     )
   rotate_right 1
   focus
    intro c5
    first
    | exact dn c5
    | (
     have d5 := c5;try simp at d5
     skip
     )
   all_goals first | refine blk_ret ?_ | refine blk_exit ?_
   all_goals first
   | refine aft_ret ?_
   | (
    refine aft_normal ?_
    refine wa_ (wa_ (wc_region (w_ (a_ (h:=wo_nil (e_ (h:=aft_normal (wc_block (?_)))))))))
    refine wc_loopI (l_clS2 c hp hk d1 hx 0 (by omega) _ (by simp [normE])) ?_ ?_
    rotate_right 1
    focus
     intro c6
     first
     | exact dn c6
     | (
      have d6 := c6;try simp at d6
      skip
      )
    rotate_right 1
    focus
     intro c6
     first
     | exact dn c6
     | (
      have d6 := c6;try simp at d6
      skip
      )
    all_goals first | refine blk_ret ?_ | refine blk_exit ?_
    all_goals first
    | refine aft_ret ?_
    | (
     refine aft_normal ?_
     refine wa_ (wa_ (wc_region (w_ (a_ (h:=wo_nil (e_ (h:=aft_normal (wc_block (?_)))))))))
     refine wc_loopI (l_clS3 c hp hk d1 hy 0 (by omega) _ (by simp [normE])) ?_ ?_
     rotate_right 1
     focus
      intro c7
      first
      | exact dn c7
      | (
       have d7 := c7;try simp at d7
       skip
       )
     rotate_right 1
     focus
      intro c7
      first
      | exact dn c7
      | (
       have d7 := c7;try simp at d7
       skip
       )
     all_goals first | refine blk_ret ?_ | refine blk_exit ?_
     all_goals first
     | refine aft_ret ?_
     | (
      refine aft_normal ?_
      refine wa_ (wc_region (w_ (a_ (h:=wo_nil (e_ (h:=aft_normal (wc_ret (?_))))))))
      )
     )
    )
   )
  )
 all_goals (refine fin_ (hr:=(res_tmp rfl res_nil)) (h:=?_);(focus (clear hk hx hy;first | (simp [clN,clC,hbad, *];done) | (simp [clN, *];done) | (simp [clN, *];unfold clC;rw [if_neg (by rintro ⟨_,_,h⟩;rw [d5] at h;cases h)];done) | (simp [clN, *];unfold clC;rw [if_pos ⟨hm3,hll,d5⟩,if_pos d6];done) | (simp [clN, *];unfold clC;rw [if_pos ⟨hm3,hll,d5⟩,if_pos d6,d7];done) | (simp [clN, *];unfold clC;rw [if_pos ⟨hm3,hll,d5⟩,if_neg d6];done))))
theorem dFrss {n : Nat} {v : V} (h : hasT Tryz.prog (n + 7) 24 v) : ∃ l,v = .lst false 0 (frss false l) ∧ bg_Frss l := by
  obtain ⟨xs,e,h1,h2⟩ := dec_slice Tryz.underlying24 h
  obtain ⟨l,e2,h3⟩ := dec_list (f:=fun x => .lst false 0 (frs false x)) (p:=bg_Frs) (fun x hx => dFrs (h2 x hx))
  exact ⟨l,by rw [e,e2];rfl,by rw [e2] at h1;simpa using h1,h3⟩
theorem dCl {n : Nat} {v : V} (h : hasT Tryz.prog (n + 11) 26 v) : ∃ d : Cl,v = d.v false ∧ bg_Cl d := by
  obtain ⟨xs,e,x0,q0,rfl,t0,x1,q1,rfl,t1,x2,q2,rfl,t2,hq⟩ := dec_struct Tryz.underlying26 h
  obtain ⟨a0,rfl,b0⟩ := dNodes t0
  obtain ⟨a1,rfl,b1⟩ := dWks t1
  obtain ⟨a2,rfl,b2⟩ := dFrss t2
  simp only [List.map_nil,hasL] at hq
  subst hq
  exact ⟨⟨a0,a1,a2⟩,e,⟨b0,b1,b2⟩⟩
end Go.Proofs.YtadaeiahfidodaaGreat.Ev
namespace Go.Proofs.YtadaeiahfidodaaGreat.Ev
open Go
set_option maxRecDepth 100000
set_option linter.unusedSimpArgs false
set_option linter.unusedVariables false
set_option maxHeartbeats 2000000
def toldAt (v : Int) (w : Wk) : Int := ((w.nodes[v.toNat]?).map Hd.told).getD 0
def toldR (v : Int) : Int → List Wk → Int
  | o,[] => o
  | o,w :: r => toldR v (min o (toldAt v w)) r
theorem hd_at {l : List Hd} {v : Int} (h0 : 0 ≤ v) (h1 : v < l.length) : ∃ d,l[v.toNat]? = some d ∧ (hds false l)[v.toNat]? = some (d.v false) := by
  have : v.toNat < l.length := by omega
  exact ⟨l[v.toNat],by simp [this],by simp [hds,this]⟩
theorem toldAt_of {w : Wk} {v : Int} {d : Hd} (h : w.nodes[v.toNat]? = some d) : toldAt v w = d.told := by simp [toldAt,h]
theorem wksR_all {pl : List Nd} : ∀ {l : List Wk},wksR pl l = 0 → ∀ w ∈ l,wkC pl w = 0
  | [],_,w,h => by cases h
  | x :: r,h,w,hw => by
    by_cases hx : wkC pl x = 0
    · rw [wksR_0 hx] at h
      rcases List.mem_cons.1 hw with rfl | hw
      · exact hx
      · exact wksR_all h w hw
    · rw [wksR_1 hx] at h;exact absurd h hx
theorem wkC_nodes {pl : List Nd} {w : Wk} (h : wkC pl w = 0) : w.nodes.length = pl.length := by
  unfold wkC at h;grind
theorem clN_in {c : Cl} (h : clN c = 0) : (lookN c.plan).2 = 0 ∧ (1 ≤ c.workers.length ∧ c.workers.length ≤ 3) ∧ ∀ w ∈ c.workers,w.nodes.length = c.plan.length := by
  unfold clN at h
  split at h
  · rename_i h0
    unfold clC at h
    split at h
    · rename_i h1
      split at h
      · rename_i h2
        exact ⟨h0,h1.1,fun w hw => wkC_nodes (wksR_all h2 w hw)⟩
      · exact absurd h ‹_›
    · cases h
  · exact absurd h ‹_›
def viewC (c : Cl) (v : Int) : Int := if clN c = 0 then (if inI v 0 ((c.plan.length : Int) - 1) = true ∧ (ndAt c.plan v).op = 12 then 0 else 3) else clN c
theorem viewC_zero {c : Cl} {v : Int} (h : viewC c v = 0) : clN c = 0 ∧ 0 ≤ v ∧ v < c.plan.length := by
  unfold viewC at h
  split at h
  · rename_i h0
    split at h
    · rename_i h1;have := h1.1;simp [inI] at this;exact ⟨h0,by omega,by omega⟩
    · cases h
  · exact absurd h ‹_›
theorem e_viewI (c : Cl) (v : Int) (hp : c.plan.length < 2000000) (hk : okN c.plan) (hx : w_Wks c.workers < 2000000) (hy : w_Frss c.links < 2000000) : oc.call 30 [.vptr (c.v false),.int .i64 v,.bool true] = some (.int .i64 (viewC c v),[]) := by
 refine fun_s rfl cd30 rfl rfl rfl (by simp;rfl) (by simp;rfl) ?_
 have hw : IntKind.i64.wrap ((c.plan.length : Int) - 1) = c.plan.length - 1 := wrap_id (by omega) (by omega)
 refine wa_ (wc_region (w_ (a_ (h:=wo_nil (e_ (h:=aft_normal (wa_ (wa_ (wc_region (w_ (m_ (h:=w_ (nc (h:=w_ (l_ (h:=w_ (ca (hc:=e_clI c hp hk hx hy) (h:=w_ (a_ (h:=wo_nil (e_ (h:=aft_normal (wa_ (wc_region (w_ (m_ (h:=w_ (bE (h:=wo_nil (e_ (h:=aft_normal (?_))))))))))))))))))))))))))))))))
 refine c_ (h1:=?_) (h2:=?_)
 rotate_right 1
 focus
  intro c1
  first
  | exact dn c1
  | (
   have d1 := c1;try simp at d1
   refine wc_skip (?_)
   )
 rotate_right 1
 focus
  intro c1
  first
  | exact dn c1
  | (
   have d1 := c1;try simp at d1
   refine wa_ (wc_region (w_ (m_ (h:=w_ (a_ (h:=wo_nil (e_ (h:=aft_normal (wc_ret (?_))))))))))
   )
 all_goals first
 | refine aft_ret ?_
 | (
  refine aft_normal ?_
  refine wa_ (wa_ (wc_region (w_ (m_ (h:=w_ (m_ (h:=w_ (nc (h:=w_ (f_ (h:=w_ (l_ (h:=w_ (ca (hc:=e_sizeN _ _ (by simp;omega)) (h:=w_ (b_ (h:=w_ (ca (hc:=e_in _ _ _) (h:=w_ (u_ (h:=w_ (m_ (h:=?_)))))))))))))))))))))))
  refine gw_ (h1:=?_) (h2:=?_)
  rotate_right 1
  focus
   intro c2
   first
   | exact dn c2
   | (
    have d2 := c2;try simp at d2
    refine go_ (h:=go_ (h:=go_ (h:=go_ (h:=go_ (h:=go_ (h:=go_ (h:=go_ (h:=go_ (h:=?_)))))))))
    )
  rotate_right 1
  focus
   intro c2
   first
   | exact dn c2
   | (
    have d2 := c2;try simp at d2
    have hin : 0 ≤ v ∧ v < c.plan.length := (by simp [inI,hw] at d2;omega);obtain ⟨d,hd,g1⟩ := nd_at hin.1 hin.2;have hnd := ndAt_of hd
    refine g_ (h:=w_ (m_ (h:=g_ (h:=w_ (nc (h:=g_ (h:=w_ (f_ (h:=g_ (h:=w_ (l_ (h:=g_ (h:=w_ (m_ (h:=g_ (h:=w_ (x_ (h:=g_ (h:=w_ (f_ (h:=g_ (h:=w_ (l_ (h:=g_ (h:=w_ (bE (h:=?_)))))))))))))))))))))))))))
    )
  all_goals
   refine w_ (pk (h:=w_ (m_ (h:=?_))))
   refine gw_ (h1:=?_) (h2:=?_)
   rotate_right 1
   focus
    intro c3
    first
    | exact dn c3
    | (
     have d3 := c3;try simp at d3
     refine go_ (h:=go_ (h:=?_))
     )
   rotate_right 1
   focus
    intro c3
    first
    | exact dn c3
    | (
     have d3 := c3;try simp at d3
     refine g_ (h:=w_ (m_ (h:=g_ (h:=w_ (u_ (h:=?_))))))
     )
   all_goals
    refine w_ (pk (h:=wo_nil (e_ (h:=?_))))
  all_goals first
  | (
   refine aft_normal ?_
   refine c_ (h1:=?_) (h2:=?_)
   rotate_right 1
   focus
    intro c4
    first
    | exact dn c4
    | (
     have d4 := c4;try simp at d4
     refine wc_skip (?_)
     )
   rotate_right 1
   focus
    intro c4
    first
    | exact dn c4
    | (
     have d4 := c4;try simp at d4
     refine wa_ (wc_region (w_ (a_ (h:=wo_nil (e_ (h:=aft_normal (wc_ret (?_))))))))
     )
   )
  all_goals first
  | refine aft_ret ?_
  | (
   refine aft_normal ?_
   refine wa_ (wc_region (w_ (a_ (h:=wo_nil (e_ (h:=aft_normal (wc_ret (?_))))))))
   )
  )
 all_goals (refine fin_ (hr:=(res_tmp rfl res_nil)) (h:=?_);(focus (clear hk hx hy;first | (simp [viewC,hnd,inI,hw] at * <;> grind) | (simp [viewC,inI,hw] at * <;> grind))))
theorem min_a {o t : Int} : (if t < o then t else o) = min o t := by omega
theorem min_b {o t : Int} : (if o < t then o else t) = min o t := by omega
theorem wk_0 {l : List Wk} (h : 1 ≤ l.length) : ∃ w,l[0]? = some w ∧ w ∈ l ∧ (wks false l)[(0 : Int).toNat]? = some (w.v false) := by
  have : 0 < l.length := by omega
  exact ⟨l[0],by simp [this],List.getElem_mem this,by simp [wks,this]⟩
theorem l_told (c : Cl) (v : Int) (hx : w_Wks c.workers < 2000000) (h0 : 0 ≤ v) (h1 : v < c.plan.length) (ha : ∀ w ∈ c.workers,w.nodes.length = c.plan.length) : ∀ x : Nat × Int,(x.1 ≤ c.workers.length) → ∀ s,normE 2 (some [1,5,22,23,24]) s = ⟨[(1,.int .i64 v),(5,.int .i64 x.2),(22,.lst false 0 (wks false c.workers)),(23,.int .i64 c.workers.length),(24,.int .i64 x.1)],[],2⟩ →
 oc.loop 31 3 s = some (.exit 0,⟨[(5,.int .i64 (toldR v x.2 (c.workers.drop x.1)))],[],2⟩) := by
 refine loop_ind (σ:=Nat × Int) (fun x => c.workers.length - x.1) _ (fun x => ⟨[(1,.int .i64 v),(5,.int .i64 x.2),(22,.lst false 0 (wks false c.workers)),(23,.int .i64 c.workers.length),(24,.int .i64 x.1)],[],2⟩) _ ?_
 rintro ⟨i,o⟩ hi ih s hs
 simp only at hi
 refine loop_s cd31 rfl rfl hs ?_
 have hlen := w_Wks_len (l:=c.workers)
 refine wa_ (wc_region (w_ (b_ (h:=wo_nil (e_ (h:=aft_normal (wa_ (?_))))))))
 refine c_ (h1:=?_) (h2:=?_)
 rotate_right 1
 focus
  intro c1
  first
  | exact dn c1
  | (
   have d1 := c1;try simp at d1
   refine wc_exit (?_)
   )
 rotate_right 1
 focus
  intro c1
  first
  | exact dn c1
  | (
   have d1 := c1;try simp at d1
   have hw := wrap_succ (i:=i) (by omega);obtain ⟨b,hb,e1,g1⟩ := wks_cut (t:=false) (l:=c.workers) (i:=i) (by omega);obtain ⟨d,hd,g2⟩ := hd_at h0 (by rw [ha b (List.mem_of_getElem? hb)];exact h1);have hmin := min_a (o:=o) (t:=d.told)
   refine wc_skip (?_)
   )
 all_goals first
 | refine aft_exit ?_
 | (
  refine aft_normal ?_
  refine wa_ (wc_block (wa_ (wc_region (w_ (x_ (h:=w_ (l_ (h:=w_ (al (h:=w0 (s_ (h:=wo_nil (e_ (h:=aft_normal (wc_region (w_ (m_ (h:=w_ (f_ (h:=w_ (l_ (h:=w_ (m_ (h:=w_ (x_ (h:=w_ (f_ (h:=w_ (l_ (h:=w_ (mi (h:=w_ (a_ (h:=wo_nil (e_ (h:=blk_normal (aft_normal (wc_region (w_ (b_ (h:=w_ (m_ (h:=wo_nil (e_ (h:=?_)))))))))))))))))))))))))))))))))))))))))))))
  )
 all_goals first
 | (refine (ih ((i + 1,min o d.told)) (by simp;omega) ?_ _ ?_).trans ?_;(focus (first | omega | (simp;done) | (simp;omega)));(focus (simp [normE,hw,hmin];done));(focus (rw [e1,toldR,toldAt_of hd])))
 | (apply end_leaf (ex:=(Ext.exit 0)) 2 (some [5]);(focus (simp [normE];rfl));(focus (rw [List.drop_eq_nil_of_le (by omega)];simp [toldR])))
def toldN (c : Cl) (v : Int) : Int := toldR v (((c.workers[0]?).map (toldAt v)).getD 0) c.workers
theorem e_told2 (c : Cl) (v : Int) (hx : w_Wks c.workers < 2000000) (hw1 : 1 ≤ c.workers.length) (h0 : 0 ≤ v) (h1 : v < c.plan.length) (ha : ∀ w ∈ c.workers,w.nodes.length = c.plan.length) : oc.call 31 [.vptr (c.v false),.int .i64 v] = some (.int .i64 (toldN c v),[]) := by
 refine fun_s rfl cd31 rfl rfl rfl (by simp;rfl) (by simp;rfl) ?_
 obtain ⟨b,hb,hbm,g1⟩ := wk_0 hw1
 obtain ⟨d,hd,g2⟩ := hd_at h0 (by rw [ha b hbm];exact h1)
 refine wa_ (wc_region (w_ (a_ (h:=wo_nil (e_ (h:=aft_normal (wa_ (wc_region (w_ (m_ (h:=w_ (nc (h:=w_ (f_ (h:=w_ (l_ (h:=w_ (x_ (h:=w_ (f_ (h:=w_ (l_ (h:=w_ (m_ (h:=w_ (x_ (h:=w_ (f_ (h:=w_ (l_ (h:=w_ (a_ (h:=wo_nil (e_ (h:=aft_normal (wa_ (wa_ (wc_region (w_ (m_ (h:=w_ (nc (h:=w_ (f_ (h:=w_ (l_ (h:=w_ (le (h:=w_ (m_ (h:=?_)))))))))))))))))))))))))))))))))))))))))))))))))))
 refine wo_nil (e_ (h:=aft_normal (wc_block (?_))))
 refine wc_loop (l_told c v hx h0 h1 ha (0,d.told) (by simp) _ (by simp [normE])) ?_
 refine blk_exit (aft_normal (wa_ (wc_region (w_ (m_ (h:=w_ (a_ (h:=wo_nil (e_ (h:=aft_normal (wc_ret (?_))))))))))))
 all_goals (refine fin_ (hr:=(res_tmp rfl res_nil)) (h:=?_);(focus (clear ha;simp [toldN,hb,toldAt_of hd])))
def toldV (c : Cl) (v : Int) : Int × Int := if viewC c v = 0 then (0,toldN c v) else (viewC c v,0)
theorem e_toldI (c : Cl) (v : Int) (hp : c.plan.length < 2000000) (hk : okN c.plan) (hx : w_Wks c.workers < 2000000) (hy : w_Frss c.links < 2000000) : oc.call 13 [c.v false,.int .i64 v] = some (.agg [.int .i64 (toldV c v).1,.int .i64 (toldV c v).2],[]) := by
 refine fun_s rfl cd13 rfl rfl rfl (by simp;rfl) (by simp;rfl) ?_
 refine wa_ (wc_region (w_ (bx (h:=w_ (al (h:=wo_nil (e_ (h:=aft_normal (wa_ (wa_ (wc_region (w_ (m_ (h:=w_ (ca (hc:=e_viewI c v hp hk hx hy) (h:=w_ (a_ (h:=wo_nil (e_ (h:=aft_normal (wa_ (wc_region (w_ (m_ (h:=w_ (bE (h:=wo_nil (e_ (h:=aft_normal (?_))))))))))))))))))))))))))))))
 refine c_ (h1:=?_) (h2:=?_)
 rotate_right 1
 focus
  intro c1
  first
  | exact dn c1
  | (
   have d1 := c1;try simp at d1
   obtain ⟨q0,q1,q2⟩ := viewC_zero d1;obtain ⟨q3,q4,q5⟩ := clN_in q0
   refine wc_skip (?_)
   )
 rotate_right 1
 focus
  intro c1
  first
  | exact dn c1
  | (
   have d1 := c1;try simp at d1
   refine wa_ (wc_region (w_ (m_ (h:=w_ (bd (h:=w0 (s_ (h:=wo_nil (e_ (h:=aft_normal (wc_ret (?_))))))))))))
   )
 all_goals first
 | refine aft_ret ?_
 | (
  refine aft_normal ?_
  refine wa_ (wc_region (w_ (m_ (h:=w_ (ca (hc:=e_told2 c v hx q4.1 q1 q2 q5) (h:=w_ (bd (h:=w0 (s_ (h:=wo_nil (e_ (h:=aft_normal (wc_ret (?_))))))))))))))
  )
 all_goals (refine fin_ (hr:=(res_cell (tys_ok.zero _ _ rfl) rfl (by simp;rfl) (by rfl) res_nil)) (h:=?_);(focus (clear hk;simp [toldV, *])))
theorem l_toldS (c : Cl) (v : Int) (hx : w_Wks c.workers < 2000000) (h0 : 0 ≤ v) (h1 : v < c.plan.length) (ha : ∀ w ∈ c.workers,w.nodes.length = c.plan.length) : ∀ x : Nat × Int,(x.1 ≤ c.workers.length) → ∀ s,normE 2 (some [0,1,5,6]) s = ⟨[(0,.vptr (c.v false)),(1,.int .i64 v),(5,.int .i64 x.2),(6,.int .i64 x.1)],[],2⟩ →
 oc.loop 29 3 s = some (.exit 0,⟨[(5,.int .i64 (toldR v x.2 (c.workers.drop x.1)))],[],2⟩) := by
 refine loop_ind (σ:=Nat × Int) (fun x => c.workers.length - x.1) _ (fun x => ⟨[(0,.vptr (c.v false)),(1,.int .i64 v),(5,.int .i64 x.2),(6,.int .i64 x.1)],[],2⟩) _ ?_
 rintro ⟨i,o⟩ hi ih s hs
 simp only at hi
 refine loop_s cd29 rfl rfl hs ?_
 have hlen := w_Wks_len (l:=c.workers)
 refine wa_ (wa_ (wc_region (w_ (m_ (h:=w_ (m_ (h:=w_ (nc (h:=w_ (f_ (h:=w_ (l_ (h:=w_ (le (h:=w_ (b_ (h:=wo_nil (e_ (h:=aft_normal (?_))))))))))))))))))))
 refine c_ (h1:=?_) (h2:=?_)
 rotate_right 1
 focus
  intro c1
  first
  | exact dn c1
  | (
   have d1 := c1;try simp at d1
   refine wc_exit (?_)
   )
 rotate_right 1
 focus
  intro c1
  first
  | exact dn c1
  | (
   have d1 := c1;try simp at d1
   have hw := wrap_succ (i:=i) (by omega);obtain ⟨b,hb,e1,g1⟩ := wks_cut (t:=false) (l:=c.workers) (i:=i) (by omega);obtain ⟨d,hd,g2⟩ := hd_at h0 (by rw [ha b (List.mem_of_getElem? hb)];exact h1);have hmin := min_b (o:=o) (t:=d.told)
   refine wc_skip (?_)
   )
 all_goals first
 | refine aft_exit ?_
 | (
  refine aft_normal ?_
  refine wa_ (wc_block (wc_region (w_ (m_ (h:=w_ (m_ (h:=w_ (nc (h:=w_ (f_ (h:=w_ (l_ (h:=w_ (m_ (h:=w_ (x_ (h:=w_ (f_ (h:=w_ (l_ (h:=w_ (m_ (h:=w_ (x_ (h:=w_ (f_ (h:=w_ (l_ (h:=w_ (ca (hc:=e_l1Min _ _) (h:=w_ (a_ (h:=wo_nil (e_ (h:=blk_normal (aft_normal (wc_region (w_ (m_ (h:=w_ (b_ (h:=w_ (a_ (h:=wo_nil (e_ (h:=?_))))))))))))))))))))))))))))))))))))))))))))))
  )
 all_goals first
 | (refine (ih ((i + 1,min o d.told)) (by simp;omega) ?_ _ ?_).trans ?_;(focus (first | omega | (simp;done) | (simp;omega)));(focus (simp [normE,hw,hmin];done));(focus (rw [e1,toldR,toldAt_of hd])))
 | (apply end_leaf (ex:=(Ext.exit 0)) 2 (some [5]);(focus (simp [normE];rfl));(focus (rw [List.drop_eq_nil_of_le (by omega)];simp [toldR])))
theorem e_told3 (c : Cl) (v : Int) (hx : w_Wks c.workers < 2000000) (hw1 : 1 ≤ c.workers.length) (h0 : 0 ≤ v) (h1 : v < c.plan.length) (ha : ∀ w ∈ c.workers,w.nodes.length = c.plan.length) : oc.call 29 [.vptr (c.v false),.int .i64 v] = some (.int .i64 (toldN c v),[]) := by
 refine fun_s rfl cd29 rfl rfl rfl (by simp;rfl) (by simp;rfl) ?_
 obtain ⟨b,hb,hbm,g1⟩ := wk_0 hw1
 obtain ⟨d,hd,g2⟩ := hd_at h0 (by rw [ha b hbm];exact h1)
 refine wa_ (wc_region (w_ (a_ (h:=wo_nil (e_ (h:=aft_normal (wa_ (wc_region (w_ (m_ (h:=w_ (nc (h:=w_ (f_ (h:=w_ (l_ (h:=w_ (x_ (h:=w_ (f_ (h:=w_ (l_ (h:=w_ (m_ (h:=w_ (x_ (h:=w_ (f_ (h:=w_ (l_ (h:=w_ (a_ (h:=wo_nil (e_ (h:=aft_normal (wa_ (wa_ (wc_region (w_ (a_ (h:=wo_nil (e_ (h:=aft_normal (wc_block (?_)))))))))))))))))))))))))))))))))))))))))))))
 refine wc_loop (l_toldS c v hx h0 h1 ha (0,d.told) (by simp) _ (by simp [normE])) ?_
 refine blk_exit (aft_normal (wa_ (wc_region (w_ (m_ (h:=w_ (a_ (h:=wo_nil (e_ (h:=aft_normal (wc_ret (?_))))))))))))
 all_goals (refine fin_ (hr:=(res_tmp rfl res_nil)) (h:=?_);(focus (clear ha;simp [toldN,hb,toldAt_of hd])))
theorem e_asked9 (c : Cl) (hp : c.plan.length < 2000000) (hk : okN c.plan) (hx : w_Wks c.workers < 2000000) (hy : w_Frss c.links < 2000000) : oc.call 59 [c.v false,.int .i64 0] = some (.int .i64 (clN c),[]) := by
 refine fun_s rfl cd59 rfl rfl rfl (by simp;rfl) (by simp;rfl) ?_
 have hlen := w_Wks_len (l:=c.workers)
 refine wa_ (wc_region (w_ (bx (h:=w_ (a_ (h:=wo_nil (e_ (h:=aft_normal (wa_ (wa_ (wc_region (w_ (l_ (h:=w_ (ca (hc:=e_clS c hp hk hx hy) (h:=w_ (a_ (h:=wo_nil (e_ (h:=aft_normal (wa_ (wc_region (w_ (m_ (h:=w_ (bE (h:=wo_nil (e_ (h:=aft_normal (?_))))))))))))))))))))))))))))))
 refine c_ (h1:=?_) (h2:=?_)
 rotate_right 1
 focus
  intro c1
  first
  | exact dn c1
  | (
   have d1 := c1;try simp at d1
   have q4 := (clN_in d1).2.1.1;have hw : IntKind.i64.wrap ((c.workers.length : Int) - 1) = c.workers.length - 1 := wrap_id (by omega) (by omega)
   refine wc_skip (?_)
   )
 rotate_right 1
 focus
  intro c1
  first
  | exact dn c1
  | (
   have d1 := c1;try simp at d1
   refine wa_ (wc_region (w_ (m_ (h:=w_ (a_ (h:=wo_nil (e_ (h:=aft_normal (wc_ret (?_))))))))))
   )
 all_goals first
 | refine aft_ret ?_
 | (
  refine aft_normal ?_
  refine wa_ (wa_ (wc_region (w_ (m_ (h:=w_ (f_ (h:=w_ (l_ (h:=w_ (le (h:=w_ (b_ (h:=w_ (ca (hc:=e_l1In _ _ _) (h:=w_ (u_ (h:=wo_nil (e_ (h:=aft_normal (?_))))))))))))))))))))
  refine c_ (h1:=?_) (h2:=?_)
  rotate_right 1
  focus
   intro c2
   first
   | exact dn c2
   | (
    have d2 := c2;try simp at d2
    refine wc_skip (?_)
    )
  rotate_right 1
  focus
   intro c2
   first
   | exact dn c2
   | (
    have d2 := c2;try simp at d2
    refine wa_ (wc_region (w_ (a_ (h:=wo_nil (e_ (h:=aft_normal (wc_ret (?_))))))))
    )
  all_goals first
  | refine aft_ret ?_
  | (
   refine aft_normal ?_
   refine wa_ (wc_region (w_ (a_ (h:=wo_nil (e_ (h:=aft_normal (wc_ret (?_))))))))
   )
  )
 all_goals (refine fin_ (hr:=(res_tmp rfl res_nil)) (h:=?_);(focus (clear hk hx hy;first | (simp [inI,hw] at *;omega) | (simp [*];done) | (simp [inI,hw] at *;done))))
theorem e_viewS (c : Cl) (v : Int) (hp : c.plan.length < 2000000) (hk : okN c.plan) (hx : w_Wks c.workers < 2000000) (hy : w_Frss c.links < 2000000) : oc.call 28 [c.v false,.int .i64 0,.int .i64 v,.int .i64 0] = some (.int .i64 (viewC c v),[]) := by
 refine fun_s rfl cd28 rfl rfl rfl (by simp;rfl) (by simp;rfl) ?_
 have hw : IntKind.i64.wrap ((c.plan.length : Int) - 1) = c.plan.length - 1 := wrap_id (by omega) (by omega)
 refine wa_ (wc_region (w_ (bx (h:=w_ (a_ (h:=wo_nil (e_ (h:=aft_normal (wa_ (wa_ (wc_region (w_ (l_ (h:=w_ (m_ (h:=w_ (ca (hc:=e_asked9 c hp hk hx hy) (h:=w_ (a_ (h:=wo_nil (e_ (h:=aft_normal (wa_ (wc_region (w_ (m_ (h:=w_ (bE (h:=wo_nil (e_ (h:=aft_normal (?_))))))))))))))))))))))))))))))))
 refine c_ (h1:=?_) (h2:=?_)
 rotate_right 1
 focus
  intro c1
  first
  | exact dn c1
  | (
   have d1 := c1;try simp at d1
   refine wc_skip (?_)
   )
 rotate_right 1
 focus
  intro c1
  first
  | exact dn c1
  | (
   have d1 := c1;try simp at d1
   refine wa_ (wc_region (w_ (m_ (h:=w_ (a_ (h:=wo_nil (e_ (h:=aft_normal (wc_ret (?_))))))))))
   )
 all_goals first
 | refine aft_ret ?_
 | (
  refine aft_normal ?_
  refine wa_ (wa_ (wc_region (w_ (m_ (h:=w_ (f_ (h:=w_ (l_ (h:=w_ (le (h:=w_ (b_ (h:=w_ (ca (hc:=e_l1In _ _ _) (h:=w_ (u_ (h:=w_ (m_ (h:=?_)))))))))))))))))))
  refine gw_ (h1:=?_) (h2:=?_)
  rotate_right 1
  focus
   intro c2
   first
   | exact dn c2
   | (
    have d2 := c2;try simp at d2
    refine go_ (h:=go_ (h:=go_ (h:=go_ (h:=go_ (h:=go_ (h:=go_ (h:=?_)))))))
    )
  rotate_right 1
  focus
   intro c2
   first
   | exact dn c2
   | (
    have d2 := c2;try simp at d2
    have hin : 0 ≤ v ∧ v < c.plan.length := (by simp [inI,hw] at d2;omega);obtain ⟨d,hd,g1⟩ := nd_at hin.1 hin.2;have hnd := ndAt_of hd
    refine g_ (h:=w_ (f_ (h:=g_ (h:=w_ (l_ (h:=g_ (h:=w_ (m_ (h:=g_ (h:=w_ (x_ (h:=g_ (h:=w_ (f_ (h:=g_ (h:=w_ (l_ (h:=g_ (h:=w_ (bE (h:=?_)))))))))))))))))))))
    )
  all_goals
   refine w_ (pk (h:=w_ (m_ (h:=?_))))
   refine gw_ (h1:=?_) (h2:=?_)
   rotate_right 1
   focus
    intro c3
    first
    | exact dn c3
    | (
     have d3 := c3;try simp at d3
     refine go_ (h:=go_ (h:=go_ (h:=?_)))
     )
   rotate_right 1
   focus
    intro c3
    first
    | exact dn c3
    | (
     have d3 := c3;try simp at d3
     refine g_ (h:=w_ (m_ (h:=g_ (h:=w_ (ca (hc:=e_l1In _ _ _) (h:=g_ (h:=w_ (u_ (h:=?_)))))))))
     )
   all_goals
    refine w_ (pk (h:=wo_nil (e_ (h:=?_))))
  all_goals first
  | (
   refine aft_normal ?_
   refine c_ (h1:=?_) (h2:=?_)
   rotate_right 1
   focus
    intro c4
    first
    | exact dn c4
    | (
     have d4 := c4;try simp at d4
     refine wc_skip (?_)
     )
   rotate_right 1
   focus
    intro c4
    first
    | exact dn c4
    | (
     have d4 := c4;try simp at d4
     refine wa_ (wc_region (w_ (a_ (h:=wo_nil (e_ (h:=aft_normal (wc_ret (?_))))))))
     )
   )
  all_goals first
  | refine aft_ret ?_
  | (
   refine aft_normal ?_
   refine wa_ (wc_region (w_ (a_ (h:=wo_nil (e_ (h:=aft_normal (wc_ret (?_))))))))
   )
  )
 all_goals (refine fin_ (hr:=(res_tmp rfl res_nil)) (h:=?_);(focus (clear hk hx hy;first | (simp [viewC,hnd,inI,hw] at * <;> grind) | (simp [viewC,inI,hw] at * <;> grind))))
theorem e_toldS (c : Cl) (v : Int) (hp : c.plan.length < 2000000) (hk : okN c.plan) (hx : w_Wks c.workers < 2000000) (hy : w_Frss c.links < 2000000) : oc.call 12 [c.v false,.int .i64 v] = some (.agg [.int .i64 (toldV c v).1,.int .i64 (toldV c v).2],[]) := by
 refine fun_s rfl cd12 rfl rfl rfl (by simp;rfl) (by simp;rfl) ?_
 refine wa_ (wc_region (w_ (bx (h:=w_ (al (h:=wo_nil (e_ (h:=aft_normal (wa_ (wa_ (wc_region (w_ (l_ (h:=w_ (m_ (h:=w_ (ca (hc:=e_viewS c v hp hk hx hy) (h:=w_ (a_ (h:=wo_nil (e_ (h:=aft_normal (wa_ (wc_region (w_ (m_ (h:=w_ (bE (h:=wo_nil (e_ (h:=aft_normal (?_))))))))))))))))))))))))))))))))
 refine c_ (h1:=?_) (h2:=?_)
 rotate_right 1
 focus
  intro c1
  first
  | exact dn c1
  | (
   have d1 := c1;try simp at d1
   obtain ⟨q0,q1,q2⟩ := viewC_zero d1;obtain ⟨q3,q4,q5⟩ := clN_in q0
   refine wc_skip (?_)
   )
 rotate_right 1
 focus
  intro c1
  first
  | exact dn c1
  | (
   have d1 := c1;try simp at d1
   refine wa_ (wc_region (w_ (m_ (h:=w_ (bd (h:=w0 (s_ (h:=wo_nil (e_ (h:=aft_normal (wc_ret (?_))))))))))))
   )
 all_goals first
 | refine aft_ret ?_
 | (
  refine aft_normal ?_
  refine wa_ (wc_region (w_ (m_ (h:=w_ (ca (hc:=e_told3 c v hx q4.1 q1 q2 q5) (h:=w_ (bd (h:=w0 (s_ (h:=wo_nil (e_ (h:=aft_normal (wc_ret (?_))))))))))))))
  )
 all_goals (refine fin_ (hr:=(res_cell (tys_ok.zero _ _ rfl) rfl (by simp;rfl) (by rfl) res_nil)) (h:=?_);(focus (clear hk;simp [toldV, *])))
theorem law_told (c : Cl) (v : Int) (hb : bg_Cl c) : oc.call 4 [c.v false,.int .i64 v] = some (.bool true,[]) := by
 refine fun_s rfl cd4 rfl rfl rfl (by simp;rfl) (by simp;rfl) ?_
 refine wa_ (wc_region (w_ (bx (h:=w_ (a_ (h:=wo_nil (e_ (h:=aft_normal (wa_ (wc_region (w_ (a_ (h:=wo_nil (e_ (h:=aft_normal (wa_ (wc_region (w_ (l_ (h:=w_ (m_ (h:=w_ (ca (hc:=sz_Cl c 1048576 hb (by omega) (by omega)) (h:=w_ (a_ (h:=wo_nil (e_ (h:=aft_normal (wa_ (wa_ (wc_region (w_ (m_ (h:=w_ (b_ (h:=wo_nil (e_ (h:=aft_normal (?_)))))))))))))))))))))))))))))))))))))))
 refine c_ (h1:=?_) (h2:=?_)
 rotate_right 1
 focus
  intro c1
  first
  | exact dn c1
  | (
   have d1 := c1;try simp at d1
   obtain ⟨h1,h2,h3,h4⟩ := szC_ok (x:=c) (a:=1048576) (by omega) (by omega)
   refine wc_skip (?_)
   )
 rotate_right 1
 focus
  intro c1
  first
  | exact dn c1
  | (
   have d1 := c1;try simp at d1
   refine wa_ (wc_region (w_ (a_ (h:=wo_nil (e_ (h:=aft_normal (wc_ret (?_))))))))
   )
 all_goals first
 | refine aft_ret ?_
 | (
  refine aft_normal ?_
  refine wa_ (wc_region (w_ (l_ (h:=w_ (ca (hc:=to_Cl c h1 h2 h3 h4) (h:=w_ (m_ (h:=w_ (ca (hc:=e_toldS c v h1 h2 h3 h4) (h:=w_ (al (h:=w0 (s_ (h:=wo_nil (e_ (h:=aft_normal (wa_ (wc_region (w_ (l_ (h:=w_ (ca (hc:=to_Cl c h1 h2 h3 h4) (h:=w_ (al (h:=w0 (s_ (h:=wo_nil (e_ (h:=aft_normal (wa_ (wc_region (w_ (l_ (h:=w_ (m_ (h:=w_ (ca (hc:=e_toldI c v h1 h2 h3 h4) (h:=w_ (al (h:=w0 (s_ (h:=wo_nil (e_ (h:=aft_normal (wa_ (wa_ (wc_region (?_))))))))))))))))))))))))))))))))))))))))))))))))
  refine w_ (l_ (h:=w_ (l_ (h:=w_ (ca (hc:=e_eqIR _ _ _ _) (h:=w_ (u_ (h:=wo_nil (e_ (h:=aft_normal (?_)))))))))))
  refine c_ (h1:=?_) (h2:=?_)
  rotate_right 1
  focus
   intro c2
   first
   | exact dn c2
   | (
    have d2 := c2;try simp at d2
    refine wc_skip (?_)
    )
  rotate_right 1
  focus
   intro c2
   first
   | exact dn c2
   | (
    have d2 := c2;try simp at d2
    refine wa_ (wc_region (w_ (a_ (h:=wo_nil (e_ (h:=aft_normal (wc_ret (?_))))))))
    )
  all_goals first
  | refine aft_ret ?_
  | (
   refine aft_normal ?_
   refine wa_ (wa_ (wc_draw (y_ (l_ (h:=ax_ (h:=y_ (l_ (h:=ax_ (h:=y_ (ca (hc:=to_Cl c h1 h2 h3 h4) (h:=ax_ (h:=y_ (ca (hc:=eq_Cl c h1 h2 h3 h4) (h:=ax_ (h:=y_ (u_ (h:=ax_ (h:=wo_nil (ed (h:=aft_normal (?_)))))))))))))))))))))
   refine c_ (h1:=?_) (h2:=?_)
   rotate_right 1
   focus
    intro c3
    first
    | exact dn c3
    | (
     have d3 := c3;try simp at d3
     refine wc_skip (?_)
     )
   rotate_right 1
   focus
    intro c3
    first
    | exact dn c3
    | (
     have d3 := c3;try simp at d3
     refine wa_ (wc_region (w_ (a_ (h:=wo_nil (e_ (h:=aft_normal (wc_ret (?_))))))))
     )
   all_goals first
   | refine aft_ret ?_
   | (
    refine aft_normal ?_
    refine wa_ (wc_region (w_ (a_ (h:=wo_nil (e_ (h:=aft_normal (wc_ret (?_))))))))
    )
   )
  )
 all_goals (refine fin_ (hr:=(res_tmp rfl res_nil)) (h:=?_);(focus (simp)))
end Go.Proofs.YtadaeiahfidodaaGreat.Ev
