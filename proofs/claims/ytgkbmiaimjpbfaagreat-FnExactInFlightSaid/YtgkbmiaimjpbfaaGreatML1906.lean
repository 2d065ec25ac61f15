/- Part 6 of the proof that the law named in the last part returns true at every argument: an evaluator of the program, shown sound, and its runs. No further conditions. -/
import Derived.Test.YtgkbmiaimjpbfaaGreatML1905
namespace Go.Proofs.YtgkbmiaimjpbfaaGreat.Ev
open Go
set_option maxRecDepth 100000
set_option linter.unusedSimpArgs false
set_option linter.unusedVariables false
set_option maxHeartbeats 2000000
structure Cl where
  plan : List Nd
  workers : List Wk
  links : List (List Fr)
  deriving DecidableEq
theorem Cl.eq_iff {d g : Cl} : d = g ↔ d.plan = g.plan ∧ d.workers = g.workers ∧ d.links = g.links := by
  cases d;cases g;simp
def Cl.v (t : Bool) (x : Cl) : V := .agg [.lst t (lz t 7) (nds t (lz t 1) x.plan),.lst t (lz t 7) (wks t x.workers),.lst t (lz t 1) (frss t x.links)]
theorem nds_tidyC (l : List Nd) : V.tidyL (nds true 1 l) = true := by
  induction l with
  | nil => rfl
  | cons x l ih => simp [V.tidyL,ih,Nd.v,V.tidy,ints_tidy]
@[simp] theorem Cl.cells_v (t : Bool) (x : Cl) : (x.v t).cells = 3 := rfl
@[simp] theorem Cl.mention (t : Bool) (x : Cl) : V.mention (x.v t) = [] := by simp [Cl.v,V.mention,V.mentionL,lst_mention]
@[simp] theorem Cl.share (t : Bool) (x : Cl) : (x.v t).share = x.v false := by simp [Cl.v,V.share,V.shareL,lst_share,wks_shareL,frss_shareL]
@[simp] theorem Cl.snap (t : Bool) (x : Cl) (q : St) : V.snap q (x.v t) = some (x.v false) := by simp [Cl.v,V.snap,V.snapL,mp,wks_shareL,frss_shareL]
@[simp] theorem Cl.snapA (t : Bool) (x : Cl) (q : St) : V.snapA q (x.v t) = some (x.v false) := Cl.snap t x q
@[simp] theorem Cl.snapP (t : Bool) (x : Cl) (q : St) : V.snapP q (x.v t) = some (x.v false) := Cl.snap t x q
@[simp] theorem Cl.accM (t : Bool) (x : Cl) : V.accM (x.v t) = [] := by simp [Cl.v,V.accM,V.accML]
@[simp] theorem Cl.accF (t : Bool) (x : Cl) : V.accF (x.v t) = [] := by simp [Cl.v,V.accF,V.accFL]
@[simp] theorem Cl.ren (t : Bool) (x : Cl) (ρ : Nat → Option Nat) (vr : Nat → Nat) : V.ren ρ vr (x.v t) = x.v t := by simp [Cl.v,V.ren,V.renL]
@[simp] theorem Cl.bA (i : Nat) (t : Bool) (x : Cl) (r : List V) : bindArgs i (x.v t :: r) = ((i,x.v t) :: (bindArgs (i + 1) r).1,(bindArgs (i + 1) r).2) := rfl
@[simp] theorem Cl.lodF (x : Cl) (o i ver : Nat) (fs : List Nat) : V.lod o i ver fs (x.v false) = x.v false := by simp [Cl.v,V.lod,V.lodL]
@[simp] theorem Cl.fzF (x : Cl) (s : St) : V.fz (x.v false) s = some (x.v false,s) := by simp [Cl.v,V.fz,V.fzL,mp]
@[simp] theorem Cl.scal (t : Bool) (x : Cl) : V.scal (x.v t) = false := by simp [Cl.v,V.scal,V.scalL]
@[simp] theorem Cl.isTup (t : Bool) (x : Cl) : (x.v t).isTup = false := rfl
@[simp] theorem Cl.tidyT (x : Cl) : V.tidy (x.v true) = true := by simp [Cl.v,V.tidy,V.tidyL,nds_tidyC,wks_tidyT,frss_tidyT]
@[simp] theorem Cl.thawF (x : Cl) (id : Nat) : V.thaw id (x.v false) = (x.v false,[],id) := by simp [Cl.v,V.thaw,V.thawL]
@[simp] theorem Cl.thawT (x : Cl) (id : Nat) : V.thaw id (x.v true) = (.agg [.ref (id) 0 x.plan.length,.ref (id + 1) 0 x.workers.length,.ref (id + 1 + 1) 0 x.links.length],[(id,⟨false,false,7,nds true 1 x.plan,0⟩),(id + 1,⟨false,false,7,wks true x.workers,0⟩),(id + 1 + 1,⟨false,false,1,frss true x.links,0⟩)],id + 1 + 1 + 1) := by simp [Cl.v,V.thaw,V.thawL]
def bg_Frss (l : List (List Fr)) : Prop := l.length ≤ 140737488351232 ∧ ∀ x ∈ l,bg_Frs x
def w_Frss (l : List (List Fr)) : Nat := l.length + wS w_Frs l
theorem w_Frss_mem {l : List (List Fr)} {x : List Fr} (h : x ∈ l) : l.length + w_Frs x ≤ w_Frss l := by
  have := wS_mem (f:=w_Frs) h;unfold w_Frss;omega
theorem w_Frss_len {l : List (List Fr)} : l.length ≤ w_Frss l := by unfold w_Frss;omega
theorem l_sz_Frss (l : List (List Fr)) (hl : bg_Frss l) : ∀ x : Nat × Int,(x.1 ≤ l.length ∧ 0 ≤ x.2 ∧ x.2 < 2000000) → ∀ s,normE 2 (some [0,1,5]) s = ⟨[(0,.lst false 0 (frss false l)),(1,.int .i64 x.2),(5,.int .i64 x.1)],[],2⟩ →
    oc.loop 46 5 s = some (if 0 ≤ szI (wS w_Frs (l.drop x.1)) x.2 then (.exit 0,⟨[(1,.int .i64 (szI (wS w_Frs (l.drop x.1)) x.2))],[],2⟩) else (.ret,⟨[(1,.int .i64 (-1)),(4,.int .i64 (-1))],[],2⟩)) := by
  refine loop_ind (σ:=Nat × Int) (fun x => l.length - x.1) _ (fun x => ⟨[(0,.lst false 0 (frss false l)),(1,.int .i64 x.2),(5,.int .i64 x.1)],[],2⟩) _ ?_
  rintro ⟨i,a⟩ hi ih s hs
  simp only at hi
  refine loop_s cd46 rfl rfl hs ?_
  refine wa_ (wa_ (wc_region (w_ (m_ (h:=w_ (m_ (h:=w_ (le (h:=w_ (b_ (h:=wo_nil (e_ (h:=aft_normal (?_))))))))))))))
  refine c_ (h1:=?_) (h2:=?_)
  rotate_right 1
  focus
   intro c1
   first
   | exact dn c1
   | (have d1 := c1;try simp at d1
      obtain ⟨hi1,hi2,hi3⟩ := hi;have : i = l.length := (by omega);subst this
      refine wc_exit (?_)
      )
  rotate_right 1
  focus
   intro c1
   first
   | exact dn c1
   | (have d1 := c1;try simp at d1
      obtain ⟨hi1,hi2,hi3⟩ := hi;have hw := wrap_succ (i:=i) (by have := hl.1;omega);obtain ⟨d,hx,e1,g1⟩ := frss_cut (l:=l) (i:=i) (t:=false) (by omega);have hd := hl.2 d (List.mem_of_getElem? hx)
      refine wc_skip (?_)
      )
  all_goals first
  | refine aft_exit ?_
  | (refine aft_normal ?_
     refine wa_ (wc_block (wa_ (wc_region (w_ (m_ (h:=w_ (m_ (h:=w_ (x_ (h:=w_ (l_ (h:=w_ (m_ (h:=w_ (ca (hc:=sz_Frs d a hd (by omega) (by omega)) (h:=w_ (a_ (h:=wo_nil (e_ (h:=?_))))))))))))))))))))
     refine aft_normal (wa_ (wc_region (w_ (m_ (h:=w_ (b_ (h:=wo_nil (e_ (h:=aft_normal (?_))))))))))
     refine c_ (h1:=?_) (h2:=?_)
     rotate_right 1
     focus
      intro c2
      first
      | exact dn c2
      | (have d2 := c2;try simp at d2
         refine wc_skip (?_)
         )
     rotate_right 1
     focus
      intro c2
      first
      | exact dn c2
      | (have d2 := c2;try simp at d2
         refine wa_ (wc_region (w_ (a_ (h:=wo_nil (e_ (h:=aft_normal (wc_ret (?_))))))))
         )
     all_goals first | refine blk_normal ?_ | refine blk_ret ?_
     all_goals first
     | refine aft_ret ?_
     | (refine aft_normal ?_
        refine wc_region (w_ (m_ (h:=w_ (b_ (h:=w_ (a_ (h:=wo_nil (e_ (h:=?_)))))))))
        )
     )
  all_goals first
  | (refine (ih ((i + 1,szI (w_Frs d) a)) (⟨by simp;omega,by simp;omega,by have := szI_le0 (n:=w_Frs d) (a:=a) (by omega);simp;omega⟩) ?_ _ ?_).trans ?_;(focus (first | omega | (simp;done) | (simp;omega)));(focus (simp [normE,hw];done));(focus (simp only [e1,wS_cons];rw [szI_seq (by omega)])))
  | (apply end_leaf (ex:=Ext.ret) 2 (some [1,4]);(focus (simp [normE];rfl));(focus (simp only [e1,wS_cons];rw [szI_stop (by omega) (by omega)];simp;have := szI_neg (c:=w_Frs d) (a:=a) (by omega);simp [this])))
  | (apply end_leaf (ex:=(Ext.exit 0)) 2 (some [1,4]);(focus (simp [normE];rfl));(focus (have e0 : szI 0 a = a := (by unfold szI;rw [if_neg (by omega)];simp);simp [e0,hi2])))
theorem sz_Frss (l : List (List Fr)) (a : Int) (hb : bg_Frss l) (ha : 0 ≤ a) (hc : a < 2000000) : oc.call 46 [.lst false 0 (frss false l),.int .i64 a] = some (.int .i64 (szI (w_Frss l) a),[]) := by
  refine fun_s rfl cd46 rfl rfl rfl (by simp;rfl) (by simp;rfl) ?_
  have hb1 := hb.1
  have hw : IntKind.i64.wrap (a - l.length) = a - l.length := wrap_id (by omega) (by omega)
  refine wa_ (wc_region (w_ (a_ (h:=wo_nil (e_ (h:=aft_normal (wa_ (wc_region (w_ (m_ (h:=w_ (m_ (h:=w_ (le (h:=w_ (b_ (h:=w_ (a_ (h:=?_)))))))))))))))))))
  refine wo_nil (e_ (h:=aft_normal (wa_ (wa_ (wc_region (w_ (m_ (h:=w_ (b_ (h:=wo_nil (e_ (h:=aft_normal (?_)))))))))))))
  refine c_ (h1:=?_) (h2:=?_)
  rotate_right 1
  focus
   intro c1
   first
   | exact dn c1
   | (have d1 := c1;try simp at d1
      simp only [hw] at d1;have e1 : szI l.length a = a - l.length := (by unfold szI;rw [if_neg (by omega)])
      refine wc_skip (?_)
      )
  rotate_right 1
  focus
   intro c1
   first
   | exact dn c1
   | (have d1 := c1;try simp at d1
      refine wa_ (wc_region (w_ (a_ (h:=wo_nil (e_ (h:=aft_normal (wc_ret (?_))))))))
      )
  all_goals first
  | refine aft_ret ?_
  | (refine aft_normal ?_
     refine wa_ (wa_ (wc_region (w_ (a_ (h:=wo_nil (e_ (h:=aft_normal (wc_block (?_)))))))))
     refine wc_loopI (l_sz_Frss l hb (0,a - l.length) ⟨by simp,by simp;omega,by simp;omega⟩ _ (by simp [normE,hw])) ?_ ?_
     rotate_right 1
     focus
      intro c2
      first
      | exact dn c2
      | (have d2 := c2;try simp at d2
         skip
         )
     rotate_right 1
     focus
      intro c2
      first
      | exact dn c2
      | (have d2 := c2;try simp at d2
         skip
         )
     all_goals first | refine blk_ret ?_ | refine blk_exit ?_
     all_goals first
     | refine aft_ret ?_
     | (refine aft_normal ?_
        refine wa_ (wc_region (w_ (m_ (h:=w_ (a_ (h:=wo_nil (e_ (h:=aft_normal (wc_ret (?_))))))))))
        )
     )
  all_goals (refine fin_ (hr:=(res_tmp rfl res_nil)) (h:=?_);(focus (simp [w_Frss,szI,hw] at *;grind)))
theorem l_to_Frss (l : List (List Fr)) (h : w_Frss l < 2000000) : ∀ x : Nat × (List (List Fr)),(x.1 ≤ l.length ∧ x.2.length = l.length ∧ x.2.take x.1 = l.take x.1) → ∀ s,normE 1 (some [0,3,4]) s = ⟨[(0,.lst false 0 (frss false l)),(3,.ref 1 0 l.length),(4,.int .i64 x.1)],[(1,⟨false,false,1,frss true x.2,0⟩)],2⟩ →
    oc.loop 48 3 s = some (.exit 0,⟨[(3,.ref 1 0 l.length)],[(1,⟨false,false,1,frss true l,0⟩)],2⟩) := by
  refine loop_ind (σ:=Nat × (List (List Fr))) (fun x => l.length - x.1) _ (fun x => ⟨[(0,.lst false 0 (frss false l)),(3,.ref 1 0 l.length),(4,.int .i64 x.1)],[(1,⟨false,false,1,frss true x.2,0⟩)],2⟩) _ ?_
  rintro ⟨i,r⟩ hi ih s hs
  simp only at hi
  refine loop_s cd48 rfl rfl hs ?_
  obtain ⟨hi1,hi2,hi3⟩ := hi
  have hlen := w_Frss_len (l:=l)
  refine wa_ (wa_ (wc_region (w_ (m_ (h:=w_ (m_ (h:=w_ (le (h:=w_ (b_ (h:=wo_nil (e_ (h:=aft_normal (?_))))))))))))))
  refine c_ (h1:=?_) (h2:=?_)
  rotate_right 1
  focus
   intro c1
   simp at c1;have : i = l.length := (by omega);subst this;rw [← hi2] at hi3;simp at hi3;rw [hi2] at hi3;simp at hi3;subst hi3
   refine wc_exit (?_)
  rotate_right 1
  focus
   intro c1
   simp at c1;have hw := wrap_succ (i:=i) (by omega);obtain ⟨d,hx,d1,g1⟩ := frss_cut (t:=false) c1;have hd := w_Frss_mem (List.mem_of_getElem? hx);obtain ⟨y,hy,_,g2⟩ := frss_cut (t:=true) (l:=r) (i:=i) (by omega);simp at g2
   refine wc_skip (?_)
  all_goals first
  | refine aft_exit ?_
  | (refine aft_normal ?_
     refine wa_ (wc_block (wc_region (w_ (m_ (h:=w_ (m_ (h:=w_ (m_ (h:=w_ (m_ (h:=w_ (x_ (h:=w_ (l_ (h:=w_ (ca (hc:=to_Frs d (by omega)) (h:=w_ (x_ (h:=w0 (s_ (h:=?_)))))))))))))))))))))
     refine wo_nil (e_ (h:=blk_normal (aft_normal (wc_region (w_ (m_ (h:=w_ (b_ (h:=w_ (a_ (h:=wo_nil (e_ (h:=?_)))))))))))))
     )
  all_goals first
  | (refine (ih ((i + 1,r.set i d)) (⟨by simp;omega,by simpa using hi2,set_take hi3 hi2 hx⟩) ?_ _ ?_).trans ?_;(focus (first | omega | (simp;done) | (simp;omega)));(focus (simp [normE,hw];done));(focus (rfl)))
  | (apply end_leaf (ex:=(Ext.exit 0)) 1 (some [3]);(focus (simp [normE];rfl));(focus (simp)))
theorem to_Frss (l : List (List Fr)) (h : w_Frss l < 2000000) : oc.call 48 [.lst false 0 (frss false l)] = some (.lst true 1 (frss true l),[]) := by
  refine fun_s rfl cd48 rfl rfl rfl (by simp;rfl) (by simp;rfl) ?_
  have hlen := w_Frss_len (l:=l)
  refine wa_ (wc_region (w_ (aN (h:=wo_nil (e_ (h:=aft_normal (wa_ (wc_region (w_ (m_ (h:=w_ (le (h:=w_ (mk (h:=w_ (a_ (h:=wo_nil (e_ (h:=?_)))))))))))))))))))
  refine aft_normal (wa_ (wa_ (wc_region (w_ (a_ (h:=wo_nil (e_ (h:=aft_normal (wc_block (?_))))))))))
  refine wc_loop (l_to_Frss l h (0,List.replicate l.length []) (by simp) _ (by simp [normE,frss_zero])) ?_
  refine blk_exit (aft_normal (wa_ (wc_region (w_ (m_ (h:=w_ (a_ (h:=wo_nil (e_ (h:=aft_normal (wc_ret (?_))))))))))))
  all_goals (refine fin_ (hr:=(res_tmp rfl res_nil)) (h:=?_);(focus (first | (simp_all;done) | (simp_all <;> omega) | (simp_all <;> split <;> simp_all <;> omega))))
theorem l_eq_Frss (l m : List (List Fr)) (h : w_Frss l < 2000000) (h2 : w_Frss m < 2000000) (hlm : l.length = m.length) : ∀ i : Nat,(i ≤ l.length) → ∀ s,normE 2 (some [0,1,5]) s = ⟨[(0,.lst false 0 (frss false l)),(1,.lst false 0 (frss false m)),(5,.int .i64 i)],[],2⟩ →
    oc.loop 55 4 s = some (if l.drop i = m.drop i then (.exit 0,⟨[],[],2⟩) else (.ret,⟨[(4,.bool false)],[],2⟩)) := by
  refine loop_ind (σ:=Nat) (fun i => l.length - i) _ (fun i => ⟨[(0,.lst false 0 (frss false l)),(1,.lst false 0 (frss false m)),(5,.int .i64 i)],[],2⟩) _ ?_
  intro i hi ih s hs
  refine loop_s cd55 rfl rfl hs ?_
  have hl1 := w_Frss_len (l:=l)
  refine wa_ (wa_ (wc_region (w_ (m_ (h:=w_ (m_ (h:=w_ (le (h:=w_ (b_ (h:=wo_nil (e_ (h:=aft_normal (?_))))))))))))))
  refine c_ (h1:=?_) (h2:=?_)
  rotate_right 1
  focus
   intro c1
   simp at c1;have : i = l.length := (by omega);subst this
   refine wc_exit (?_)
  rotate_right 1
  focus
   intro c1
   simp at c1;have hw := wrap_succ (i:=i) (by omega);obtain ⟨x,hx,d1,g1⟩ := frss_cut (t:=false) c1;obtain ⟨y,hy,d2,g2⟩ := frss_cut (t:=false) (l:=m) (i:=i) (by omega);have m1 := w_Frss_mem (List.mem_of_getElem? hx);have m2 := w_Frss_mem (List.mem_of_getElem? hy)
   refine wc_skip (?_)
  all_goals first
  | refine aft_exit ?_
  | (refine aft_normal ?_
     refine wa_ (wc_block (wa_ (wc_draw (y_ (m_ (h:=ax_ (h:=y_ (m_ (h:=ax_ (h:=y_ (x_ (h:=ax_ (h:=y_ (l_ (h:=ax_ (h:=y_ (m_ (h:=ax_ (h:=y_ (m_ (h:=ax_ (h:=y_ (x_ (h:=ax_ (h:=y_ (l_ (h:=ax_ (h:=?_))))))))))))))))))))))))))))
     refine y_ (ca (hc:=eq_Frs x y (by omega) (by omega)) (h:=ax_ (h:=y_ (u_ (h:=ax_ (h:=wo_nil (ed (h:=aft_normal (?_)))))))))
     refine c_ (h1:=?_) (h2:=?_)
     rotate_right 1
     focus
      intro c2
      refine wc_skip (?_)
     rotate_right 1
     focus
      intro c2
      refine wa_ (wc_region (w_ (a_ (h:=wo_nil (e_ (h:=aft_normal (wc_ret (?_))))))))
     all_goals first | refine blk_normal ?_ | refine blk_ret ?_
     all_goals first
     | refine aft_ret ?_
     | (refine aft_normal ?_
        refine wc_region (w_ (m_ (h:=w_ (b_ (h:=w_ (a_ (h:=wo_nil (e_ (h:=?_)))))))))
        )
     )
  all_goals first
  | (refine (ih (i + 1) (by omega) ?_ _ ?_).trans ?_;(focus (first | omega | (simp;done) | (simp;omega)));(focus (simp [normE,hw];done));(focus (simp at c2;rw [d1,d2];simp [c2])))
  | (apply end_leaf (ex:=Ext.ret) 2 (some [4]);(focus (simp [normE];rfl));(focus (simp at c2;rw [d1,d2];simp [c2])))
  | (apply end_leaf (ex:=(Ext.exit 0)) 2 (some [4]);(focus (simp [normE];rfl));(focus (rw [if_pos (by simp [hlm])])))
theorem eq_Frss (l m : List (List Fr)) (h : w_Frss l < 2000000) (h2 : w_Frss m < 2000000) : oc.call 55 [.lst false 0 (frss false l),.lst false 0 (frss false m)] = some (.bool (decide (l = m)),[]) := by
  refine fun_s rfl cd55 rfl rfl rfl (by simp;rfl) (by simp;rfl) ?_
  refine wa_ (wc_region (w_ (a_ (h:=wo_nil (e_ (h:=aft_normal (wa_ (wa_ (wc_region (w_ (m_ (h:=w_ (le (h:=w_ (m_ (h:=w_ (le (h:=?_))))))))))))))))))
  refine w_ (bE (h:=wo_nil (e_ (h:=aft_normal (?_)))))
  refine c_ (h1:=?_) (h2:=?_)
  rotate_right 1
  focus
   intro c1
   simp at c1
   refine wc_skip (?_)
  rotate_right 1
  focus
   intro c1
   simp at c1;have hne : l ≠ m := (by rintro rfl;exact c1 rfl)
   refine wa_ (wc_region (w_ (a_ (h:=wo_nil (e_ (h:=aft_normal (wc_ret (?_))))))))
  all_goals first
  | refine aft_ret ?_
  | (refine aft_normal ?_
     refine wa_ (wa_ (wc_region (w_ (a_ (h:=wo_nil (e_ (h:=aft_normal (wc_block (?_)))))))))
     refine wc_loopI (l_eq_Frss l m h h2 (by omega) 0 (by omega) _ (by simp [normE])) ?_ ?_
     rotate_right 1
     focus
      intro c2
      skip
     rotate_right 1
     focus
      intro c2
      skip
     all_goals first | refine blk_ret ?_ | refine blk_exit ?_
     all_goals first
     | refine aft_ret ?_
     | (refine aft_normal ?_
        refine wa_ (wc_region (w_ (a_ (h:=wo_nil (e_ (h:=aft_normal (wc_ret (?_))))))))
        )
     )
  all_goals (refine fin_ (hr:=(res_tmp rfl res_nil)) (h:=?_);(focus (first | (simp_all;done) | (simp_all <;> omega) | (simp_all <;> split <;> simp_all <;> omega))))
def bg_Cl (x : Cl) : Prop := okB x.plan ∧ bg_Wks x.workers ∧ bg_Frss x.links
def szC (x : Cl) (a : Int) : Int := if szP x.plan a < 0 then -1 else szI (w_Frss x.links) (szI (w_Wks x.workers) (szP x.plan a))
theorem szI_ok {n : Nat} {a : Int} (h : 0 ≤ szI n a) : 0 ≤ a ∧ (n : Int) ≤ a ∧ szI n a ≤ a := by unfold szI at *;split at h <;> simp_all <;> omega
theorem szC_ok {x : Cl} {a : Int} (ha : a < 2000000) (h : 0 ≤ szC x a) : x.plan.length < 2000000 ∧ okN x.plan ∧ w_Wks x.workers < 2000000 ∧ w_Frss x.links < 2000000 := by
  unfold szC at h
  split at h
  · omega
  · rename_i hp
    obtain ⟨h1,h2,h3⟩ := szP_ok (l:=x.plan) (a:=a) ha (by omega)
    obtain ⟨h4,h5,_⟩ := szI_ok h
    obtain ⟨h6,h7,_⟩ := szI_ok h4
    exact ⟨h1,h2,by omega,by have := (szI_ok h4).2.2;omega⟩
theorem sz_Cl (x : Cl) (a : Int) (hb : bg_Cl x) (ha : 0 ≤ a) (hc : a < 2000000) : oc.call 14 [x.v false,.int .i64 a] = some (.int .i64 (szC x a),[]) := by
  refine fun_s rfl cd14 rfl rfl rfl (by simp;rfl) (by simp;rfl) ?_
  refine wa_ (wc_region (w_ (bx (h:=w_ (a_ (h:=wo_nil (e_ (h:=aft_normal (wa_ (wc_region (w_ (f_ (h:=w_ (l_ (h:=w_ (m_ (h:=w_ (ca (hc:=e_szNS x.plan 0 a hb.1 ha hc) (h:=?_)))))))))))))))))))
  refine w_ (a_ (h:=wo_nil (e_ (h:=aft_normal (wa_ (wa_ (wc_region (w_ (m_ (h:=w_ (b_ (h:=wo_nil (e_ (h:=aft_normal (?_)))))))))))))))
  refine c_ (h1:=?_) (h2:=?_)
  rotate_right 1
  focus
   intro c1
   first
   | exact dn c1
   | (have d1 := c1;try simp at d1
      obtain ⟨p1,p2,p3⟩ := szP_ok (l:=x.plan) (a:=a) hc (by omega)
      refine wc_skip (?_)
      )
  rotate_right 1
  focus
   intro c1
   first
   | exact dn c1
   | (have d1 := c1;try simp at d1
      refine wa_ (wc_region (w_ (a_ (h:=wo_nil (e_ (h:=aft_normal (wc_ret (?_))))))))
      )
  all_goals first
  | refine aft_ret ?_
  | (refine aft_normal ?_
     refine wa_ (wc_region (w_ (f_ (h:=w_ (l_ (h:=w_ (m_ (h:=w_ (ca (hc:=sz_Wks x.workers (szP x.plan a) hb.2.1 (by omega) (by omega)) (h:=w_ (a_ (h:=wo_nil (e_ (h:=aft_normal (wa_ (wa_ (wc_region (?_))))))))))))))))))
     refine w_ (m_ (h:=w_ (b_ (h:=wo_nil (e_ (h:=aft_normal (?_)))))))
     refine c_ (h1:=?_) (h2:=?_)
     rotate_right 1
     focus
      intro c2
      first
      | exact dn c2
      | (have d2 := c2;try simp at d2
         have q := szI_ok (n:=w_Wks x.workers) (a:=szP x.plan a) (by omega)
         refine wc_skip (?_)
         )
     rotate_right 1
     focus
      intro c2
      first
      | exact dn c2
      | (have d2 := c2;try simp at d2
         refine wa_ (wc_region (w_ (a_ (h:=wo_nil (e_ (h:=aft_normal (wc_ret (?_))))))))
         )
     all_goals first
     | refine aft_ret ?_
     | (refine aft_normal ?_
        refine wa_ (wc_region (w_ (f_ (h:=w_ (l_ (h:=w_ (m_ (h:=w_ (ca (hc:=sz_Frss x.links (szI (w_Wks x.workers) (szP x.plan a)) hb.2.2 (by omega) (by omega)) (h:=w_ (a_ (h:=wo_nil (e_ (h:=aft_normal (wa_ (wa_ (wc_region (?_))))))))))))))))))
        refine w_ (m_ (h:=w_ (b_ (h:=wo_nil (e_ (h:=aft_normal (?_)))))))
        refine c_ (h1:=?_) (h2:=?_)
        rotate_right 1
        focus
         intro c3
         first
         | exact dn c3
         | (have d3 := c3;try simp at d3
            refine wc_skip (?_)
            )
        rotate_right 1
        focus
         intro c3
         first
         | exact dn c3
         | (have d3 := c3;try simp at d3
            refine wa_ (wc_region (w_ (a_ (h:=wo_nil (e_ (h:=aft_normal (wc_ret (?_))))))))
            )
        all_goals first
        | refine aft_ret ?_
        | (refine aft_normal ?_
           refine wa_ (wc_region (w_ (m_ (h:=w_ (a_ (h:=wo_nil (e_ (h:=aft_normal (wc_ret (?_))))))))))
           )
        )
     )
  all_goals (refine fin_ (hr:=(res_tmp rfl res_nil)) (h:=?_);(focus (simp only [szC];simp [szI] at * <;> grind)))
theorem to_Cl (x : Cl) (h1 : x.plan.length < 2000000) (h2 : okN x.plan) (h3 : w_Wks x.workers < 2000000) (h4 : w_Frss x.links < 2000000) : oc.call 16 [x.v false] = some (x.v true,[]) := by
  refine fun_s rfl cd16 rfl rfl rfl (by simp;rfl) (by simp;rfl) ?_
  refine wa_ (wc_region (w_ (bx (h:=w_ (al (h:=wo_nil (e_ (h:=aft_normal (wa_ (wc_region (w_ (al (h:=wo_nil (e_ (h:=aft_normal (wa_ (?_)))))))))))))))))
  refine wc_region (w_ (f_ (h:=w_ (l_ (h:=w_ (ca (hc:=e_toNS x.plan 0 h1 h2) (h:=w_ (f_ (h:=w0 (s_ (h:=wo_nil (e_ (h:=aft_normal (wa_ (wc_region (w_ (f_ (h:=w_ (l_ (h:=?_))))))))))))))))))))
  refine w_ (ca (hc:=to_Wks x.workers h3) (h:=w_ (f_ (h:=w0 (s_ (h:=wo_nil (e_ (h:=aft_normal (wa_ (wc_region (w_ (f_ (h:=w_ (l_ (h:=w_ (ca (hc:=to_Frss x.links h4) (h:=w_ (f_ (h:=w0 (s_ (h:=?_)))))))))))))))))))))
  refine wo_nil (e_ (h:=aft_normal (wa_ (wc_region (w_ (l_ (h:=w0 (s_ (h:=wo_nil (e_ (h:=aft_normal (wc_ret (?_)))))))))))))
  all_goals (refine fin_ (hr:=(res_cell (tys_ok.zero _ _ rfl) rfl (by simp;rfl) (by rfl) res_nil)) (h:=?_);(focus (simp [Cl.v])))
theorem eq_Cl (x : Cl) (h1 : x.plan.length < 2000000) (h2 : okN x.plan) (h3 : w_Wks x.workers < 2000000) (h4 : w_Frss x.links < 2000000) : oc.call 18 [x.v false,x.v false] = some (.bool true,[]) := by
  refine fun_s rfl cd18 rfl rfl rfl (by simp;rfl) (by simp;rfl) ?_
  refine wa_ (wc_region (w_ (bx (h:=w_ (bx (h:=w_ (a_ (h:=wo_nil (e_ (h:=aft_normal (wa_ (wa_ (wc_region (w_ (f_ (h:=w_ (l_ (h:=?_))))))))))))))))))
  refine w_ (f_ (h:=w_ (l_ (h:=w_ (ca (hc:=e_eqNS x.plan x.plan 0 0 h1 h1 h2 h2) (h:=w_ (u_ (h:=wo_nil (e_ (h:=aft_normal (?_)))))))))))
  refine c_ (h1:=?_) (h2:=?_)
  rotate_right 1
  focus
   intro c1
   first
   | exact dn c1
   | (have d1 := c1;try simp at d1
      refine wc_skip (?_)
      )
  rotate_right 1
  focus
   intro c1
   first
   | exact dn c1
   | (have d1 := c1;try simp at d1
      refine wa_ (wc_region (w_ (a_ (h:=wo_nil (e_ (h:=aft_normal (wc_ret (?_))))))))
      )
  all_goals first
  | refine aft_ret ?_
  | (refine aft_normal ?_
     refine wa_ (wa_ (wc_region (w_ (f_ (h:=w_ (l_ (h:=w_ (f_ (h:=w_ (l_ (h:=w_ (ca (hc:=eq_Wks x.workers x.workers h3 h3) (h:=w_ (u_ (h:=wo_nil (e_ (h:=aft_normal (?_))))))))))))))))))
     refine c_ (h1:=?_) (h2:=?_)
     rotate_right 1
     focus
      intro c2
      first
      | exact dn c2
      | (have d2 := c2;try simp at d2
         refine wc_skip (?_)
         )
     rotate_right 1
     focus
      intro c2
      first
      | exact dn c2
      | (have d2 := c2;try simp at d2
         refine wa_ (wc_region (w_ (a_ (h:=wo_nil (e_ (h:=aft_normal (wc_ret (?_))))))))
         )
     all_goals first
     | refine aft_ret ?_
     | (refine aft_normal ?_
        refine wa_ (wa_ (wc_region (w_ (f_ (h:=w_ (l_ (h:=w_ (f_ (h:=w_ (l_ (h:=w_ (ca (hc:=eq_Frss x.links x.links h4 h4) (h:=w_ (u_ (h:=wo_nil (e_ (h:=aft_normal (?_))))))))))))))))))
        refine c_ (h1:=?_) (h2:=?_)
        rotate_right 1
        focus
         intro c3
         first
         | exact dn c3
         | (have d3 := c3;try simp at d3
            refine wc_skip (?_)
            )
        rotate_right 1
        focus
         intro c3
         first
         | exact dn c3
         | (have d3 := c3;try simp at d3
            refine wa_ (wc_region (w_ (a_ (h:=wo_nil (e_ (h:=aft_normal (wc_ret (?_))))))))
            )
        all_goals first
        | refine aft_ret ?_
        | (refine aft_normal ?_
           refine wa_ (wc_region (w_ (a_ (h:=wo_nil (e_ (h:=aft_normal (wc_ret (?_))))))))
           )
        )
     )
  all_goals (refine fin_ (hr:=(res_tmp rfl res_nil)) (h:=?_);(focus (simp)))
end Go.Proofs.YtgkbmiaimjpbfaaGreat.Ev
namespace Go.Proofs.YtgkbmiaimjpbfaaGreat.Ev
open Go
set_option maxRecDepth 100000
set_option linter.unusedSimpArgs false
set_option linter.unusedVariables false
set_option maxHeartbeats 2000000
theorem cellsAll_map {α : Type} {f : α → V} {k : Nat} (h : ∀ x,(f x).cells = k) : ∀ l : List α,V.cellsAll k (l.map f) = true
  | [] => rfl
  | x :: l => by simp only [List.map_cons,V.cellsAll,List.all_cons,h,decide_true,Bool.true_and];exact cellsAll_map h l
@[simp] theorem cellsAll_ints (l : List Int) : V.cellsAll 1 (ints l) = true := cellsAll_map (f:=.int .i64) (fun _ => rfl) l
@[simp] theorem cellsAll_ets (t : Bool) (l : List Et) : V.cellsAll 2 (ets t l) = true := cellsAll_map (f:=Et.v t) (fun _ => rfl) l
@[simp] theorem cellsAll_cts (l : List Ct) : V.cellsAll 3 (cts l) = true := cellsAll_map (f:=Ct.v) (fun _ => rfl) l
@[simp] theorem cellsAll_frs (t : Bool) (l : List Fr) : V.cellsAll 6 (frs t l) = true := cellsAll_map (f:=Fr.v t) (fun _ => rfl) l
@[simp] theorem cellsAll_nds (t : Bool) (s : Nat) (l : List Nd) : V.cellsAll 7 (nds t s l) = true := cellsAll_map (f:=fun d : Nd => d.v t s) (fun _ => rfl) l
end Go.Proofs.YtgkbmiaimjpbfaaGreat.Ev
namespace Go.Proofs.YtgkbmiaimjpbfaaGreat.Ev
open Go
set_option maxRecDepth 100000
set_option linter.unusedSimpArgs false
set_option linter.unusedVariables false
set_option maxHeartbeats 2000000
abbrev frZ : V := .agg [.int .i64 0,.int .i64 0,.int .i64 0,.int .i64 0,.lst true 2 [],.lst true 3 []]
theorem grow_pos (e : List (Nat × V)) (o : List (Nat × Ob)) (k : Int) (hk : 0 < k) (hk2 : k < 2000000) : oc.call.i 90 [.emp true,.int .i64 k] ⟨e,o,33⟩ 33 = some (.ref 609 0 0,⟨e,(609,⟨false,false,6,List.replicate k.toNat frZ,0⟩) :: o,833⟩) := by
  have h0 : IntKind.i64.wrap (0 - 0) = 0 := by decide
  have hw : IntKind.i64.wrap (k - IntKind.i64.wrap (0 - 0)) = k := by rw [h0,Int.sub_zero];exact wrap_id (by omega) (by omega)
  apply inl_s (by rw [cf_pl];rfl) cd90 rfl rfl (by simp;rfl)
  refine wa_ (wc_region (w_ (aN (h:=wo_nil (e_ (h:=aft_normal (wa_ (wa_ (wc_region (w_ (m_ (h:=w_ (b_ (h:=wo_nil (e_ (h:=aft_normal (?_)))))))))))))))))
  refine c_ (h1:=?_) (h2:=?_)
  rotate_right 1
  focus
   intro c1
   first
   | exact dn c1
   | (have d1 := c1;try simp at d1
      refine wc_skip (?_)
      )
  rotate_right 1
  focus
   intro c1
   first
   | exact dn c1
   | (have d1 := c1;try simp at d1
      exfalso;omega
      )
  all_goals first
  | (refine aft_normal ?_
     refine wa_ (wa_ (wc_region (w_ (m_ (h:=w_ (m_ (h:=w_ (cc (h:=w_ (m_ (h:=w_ (le (h:=w_ (b_ (h:=w_ (b_ (h:=w_ (a_ (h:=wo_nil (e_ (h:=?_)))))))))))))))))))))
     refine aft_normal (wa_ (wc_region (w_ (m_ (h:=w_ (b_ (h:=wo_nil (e_ (h:=aft_normal (?_))))))))))
     refine c_ (h1:=?_) (h2:=?_)
     rotate_right 1
     focus
      intro c2
      first
      | exact dn c2
      | (have d2 := c2;try simp at d2
         exfalso;rw [hw] at c2;simp at c2;omega
         )
     rotate_right 1
     focus
      intro c2
      first
      | exact dn c2
      | (have d2 := c2;try simp at d2
         refine wc_region (w_ (m_ (h:=w_ (m_ (h:=w_ (cc (h:=w_ (sl (h:=w_ (m_ (h:=w_ (?_))))))))))))
         simp only [hw];refine apZ (h:=?_)
         refine w_ (m_ (h:=w_ (le (h:=w_ (sl (h:=w_ (a_ (h:=wo_nil (e_ (h:=?_))))))))))
         )
     all_goals first
     | (refine aft_normal ?_
        refine wa_ (wc_region (w_ (m_ (h:=w_ (a_ (h:=wo_nil (e_ (h:=aft_normal (wc_ret (?_))))))))))
        )
     )
  all_goals (exact ⟨by simp,_,rfl,rfl,rfl⟩)
theorem grow_nil (e : List (Nat × V)) (o : List (Nat × Ob)) : oc.call.i 90 [.emp true,.int .i64 0] ⟨e,o,33⟩ 33 = some (.emp true,⟨e,o,513⟩) := by
  have h0 : IntKind.i64.wrap (0 - 0) = 0 := by decide
  have hw : IntKind.i64.wrap (0 - IntKind.i64.wrap (0 - 0)) = 0 := by rw [h0];decide
  apply inl_s (by rw [cf_pl];rfl) cd90 rfl rfl (by simp;rfl)
  refine wa_ (wc_region (w_ (aN (h:=wo_nil (e_ (h:=aft_normal (wa_ (wa_ (wc_region (w_ (m_ (h:=w_ (b_ (h:=wo_nil (e_ (h:=aft_normal (?_)))))))))))))))))
  refine c_ (h1:=?_) (h2:=?_)
  rotate_right 1
  focus
   intro c1
   first
   | exact dn c1
   | (have d1 := c1;try simp at d1
      refine wc_skip (?_)
      )
  rotate_right 1
  focus
   intro c1
   first
   | exact dn c1
   | (have d1 := c1;try simp at d1
      exfalso;omega
      )
  all_goals first
  | (refine aft_normal ?_
     refine wa_ (wa_ (wc_region (w_ (m_ (h:=w_ (m_ (h:=w_ (cc (h:=w_ (m_ (h:=w_ (le (h:=w_ (b_ (h:=w_ (b_ (h:=w_ (a_ (h:=wo_nil (e_ (h:=?_)))))))))))))))))))))
     refine aft_normal (wa_ (wc_region (w_ (m_ (h:=w_ (b_ (h:=wo_nil (e_ (h:=aft_normal (?_))))))))))
     refine c_ (h1:=?_) (h2:=?_)
     rotate_right 1
     focus
      intro c2
      first
      | exact dn c2
      | (have d2 := c2;try simp at d2
         refine wc_skip (?_)
         )
     rotate_right 1
     focus
      intro c2
      first
      | exact dn c2
      | (have d2 := c2;try simp at d2
         exfalso;rw [hw] at c2;simp at c2
         )
     all_goals first
     | (refine aft_normal ?_
        refine wa_ (wc_region (w_ (m_ (h:=w_ (a_ (h:=wo_nil (e_ (h:=aft_normal (wc_ret (?_))))))))))
        )
     )
  all_goals (exact ⟨by simp,_,rfl,rfl,rfl⟩)
theorem wS_cutL {α : Type} {f : α → Nat} {l : List α} {i : Nat} {x : α} (h : l[i]? = some x) : wS f (l.take (i + 1)) = wS f (l.take i) + f x := by
  induction l generalizing i with
  | nil => simp at h
  | cons y r ih =>
    cases i with
    | zero => simp at h;subst h;simp
    | succ i => simp at h;simp only [List.take_succ_cons,wS_cons];rw [ih h];omega
theorem wS_takeL {α : Type} {f : α → Nat} {l : List α} {i : Nat} : wS f (l.take i) ≤ wS f l := by
  induction l generalizing i with
  | nil => simp
  | cons y r ih =>
    cases i with
    | zero => simp
    | succ i => have := ih (i:=i);simp only [List.take_succ_cons,wS_cons];omega
def lenS (l : List (List Fr)) : Nat := wS List.length l
theorem lenS_cut {l : List (List Fr)} {i : Nat} {x : List Fr} (h : l[i]? = some x) : lenS (l.take (i + 1)) = lenS (l.take i) + x.length := wS_cutL h
theorem lenS_take {l : List (List Fr)} {i : Nat} : lenS (l.take i) ≤ lenS l := wS_takeL
theorem lenS_flat {l : List (List Fr)} : l.flatten.length = lenS l := by
  induction l with
  | nil => rfl
  | cons x r ih => simp only [List.flatten_cons,List.length_append,ih,lenS,wS_cons]
theorem flat_cut {l : List (List Fr)} {i : Nat} {x : List Fr} (h : l[i]? = some x) : (l.take (i + 1)).flatten = (l.take i).flatten ++ x := by
  rw [List.take_add_one,h];simp
theorem l_catSz (ls : List (List Fr)) (hl : ls.length < 2000000) (hs0 : lenS ls < 2000000) : ∀ i : Nat,(i ≤ ls.length) → ∀ s,normE 1 (some [0,3,9,10,11]) s = ⟨[(0,.lst false 0 (frss false ls)),(3,.int .i64 (lenS (ls.take i) : Nat)),(9,.lst false 0 (frss false ls)),(10,.int .i64 ls.length),(11,.int .i64 i)],[],1⟩ →
    oc.loop 52 3 s = some (.exit 0,⟨[(0,.lst false 0 (frss false ls)),(3,.int .i64 (lenS ls : Nat))],[],1⟩) := by
  refine loop_ind (σ:=Nat) (fun i => ls.length - i) _ (fun i => ⟨[(0,.lst false 0 (frss false ls)),(3,.int .i64 (lenS (ls.take i) : Nat)),(9,.lst false 0 (frss false ls)),(10,.int .i64 ls.length),(11,.int .i64 i)],[],1⟩) _ ?_
  intro i hi ih s hs
  refine loop_s cd52 rfl rfl hs ?_
  refine wa_ (wc_region (w_ (b_ (h:=wo_nil (e_ (h:=aft_normal (wa_ (?_))))))))
  refine c_ (h1:=?_) (h2:=?_)
  rotate_right 1
  focus
   intro c1
   first
   | exact dn c1
   | (have d1 := c1;try simp at d1
      refine wc_exit (?_)
      )
  rotate_right 1
  focus
   intro c1
   first
   | exact dn c1
   | (have d1 := c1;try simp at d1
      have hw := wrap_succ (i:=i) (by omega);obtain ⟨c,hx,e1,g1⟩ := frss_cut (t:=false) (l:=ls) (i:=i) (by omega);have hcut := lenS_cut hx;have hle := lenS_take (l:=ls) (i:=i + 1);have hws : IntKind.i64.wrap ((lenS (ls.take i) : Nat) + (c.length : Int)) = (lenS (ls.take (i + 1)) : Nat) := (wrap_id (by omega) (by omega)).trans (by omega)
      refine wc_skip (?_)
      )
  all_goals first
  | refine aft_exit ?_
  | (refine aft_normal ?_
     refine wa_ (wc_block (wa_ (wc_region (w_ (x_ (h:=w_ (l_ (h:=w_ (a_ (h:=wo_nil (e_ (h:=aft_normal (wa_ (wc_region (w_ (m_ (h:=?_)))))))))))))))))
     refine w_ (m_ (h:=w_ (le (h:=w_ (b_ (h:=w_ (a_ (h:=wo_nil (e_ (h:=aft_normal (wa_ (wc_region (w_ (m_ (h:=w_ (b_ (h:=wo_nil (e_ (h:=aft_normal (?_))))))))))))))))))))
     refine c_ (h1:=?_) (h2:=?_)
     rotate_right 1
     focus
      intro c2
      first
      | exact dn c2
      | (have d2 := c2;try simp at d2
         refine wc_skip (?_)
         )
     rotate_right 1
     focus
      intro c2
      first
      | exact dn c2
      | (have d2 := c2;try simp at d2
         exfalso;clear ih hs;omega
         )
     all_goals refine blk_normal ?_
     all_goals first
     | (refine aft_normal ?_
        refine wc_region (w_ (b_ (h:=w_ (m_ (h:=wo_nil (e_ (h:=?_)))))))
        )
     )
  all_goals first
  | (refine (ih (i + 1) (by omega) ?_ _ ?_).trans ?_;(focus (first | omega | (simp;done) | (simp;omega)));(focus (simp [normE,hw,hws];done));(focus (rfl)))
  | (apply end_leaf (ex:=(Ext.exit 0)) 1 (some [0,3]);(focus (simp [normE];rfl));(focus (rw [List.take_of_length_le (by omega)])))
theorem l_cat (ls : List (List Fr)) (hl : ls.length < 2000000) (hs0 : lenS ls < 2000000) : ∀ i : Nat,(i ≤ ls.length) → ∀ s,normE 1 (some [6,25,26,27]) s = ⟨[(6,.ref 1 0 (lenS (ls.take i))),(25,.lst false 0 (frss false ls)),(26,.int .i64 ls.length),(27,.int .i64 i)],[(1,⟨false,false,6,frs false (ls.take i).flatten,0⟩)],2⟩ →
    oc.loop 52 11 s = some (.exit 2,⟨[(6,.ref 1 0 (lenS ls))],[(1,⟨false,false,6,frs false ls.flatten,0⟩)],2⟩) := by
  refine loop_ind (σ:=Nat) (fun i => ls.length - i) _ (fun i => ⟨[(6,.ref 1 0 (lenS (ls.take i))),(25,.lst false 0 (frss false ls)),(26,.int .i64 ls.length),(27,.int .i64 i)],[(1,⟨false,false,6,frs false (ls.take i).flatten,0⟩)],2⟩) _ ?_
  intro i hi ih s hs
  refine loop_s cd52 rfl rfl hs ?_
  have hT := lenS_take (l:=ls) (i:=i)
  generalize hF : (ls.take i).flatten = F
  have hN : lenS (ls.take i) = F.length := by rw [← hF];exact lenS_flat.symm
  rw [hN] at hT ⊢
  refine wa_ (wc_region (w_ (b_ (h:=wo_nil (e_ (h:=aft_normal (wa_ (?_))))))))
  refine c_ (h1:=?_) (h2:=?_)
  rotate_right 1
  focus
   intro c1
   first
   | exact dn c1
   | (have d1 := c1;try simp at d1
      refine wc_exit (?_)
      )
  rotate_right 1
  focus
   intro c1
   first
   | exact dn c1
   | (have d1 := c1;try simp at d1
      have hw := wrap_succ (i:=i) (by omega);obtain ⟨c,hx,e1,g1⟩ := frss_cut (t:=false) (l:=ls) (i:=i) (by omega);have hcut := lenS_cut hx;rw [hN] at hcut;have hle := lenS_take (l:=ls) (i:=i + 1);have hfl := flat_cut hx;rw [hF] at hfl
      refine wc_skip (?_)
      )
  all_goals first
  | refine aft_exit ?_
  | (refine aft_normal ?_
     refine wa_ (wc_block (wa_ (wc_region (w_ (x_ (h:=w_ (l_ (h:=w_ (a_ (h:=wo_nil (e_ (h:=aft_normal (wc_region (w_ (m_ (h:=w_ (m_ (h:=?_))))))))))))))))))
     refine w_ (ap (h:=w_ (a_ (h:=wo_nil (e_ (h:=blk_normal (aft_normal (wc_region (w_ (b_ (h:=w_ (m_ (h:=wo_nil (e_ (h:=?_)))))))))))))))
     )
  all_goals first
  | (refine (ih (i + 1) (by omega) ?_ _ ?_).trans ?_;(focus (first | omega | (simp;done) | (simp;omega)));(focus (simp [normE,hw,hcut,hfl];done));(focus (rfl)))
  | (apply end_leaf (ex:=(Ext.exit 2)) 1 (some [6]);(focus (simp [normE];rfl));(focus (rw [List.take_of_length_le (by omega)] at hF hN;subst hF;simp [hN])))
theorem cat_nil (ls : List (List Fr)) (hl : ls.length < 2000000) (hs0 : lenS ls < 2000000) (hne : 0 < ls.length) (L : List Fr) (hL : ls.flatten = L) : ∀ s,normE 1 (some [6,25,26,27]) s = ⟨[(6,.emp true),(25,.lst false 0 (frss false ls)),(26,.int .i64 ls.length),(27,.int .i64 0)],[],1⟩ → oc.loop 52 11 s = some (.exit 2,⟨[(6,.ref 1 0 L.length)],[(1,⟨false,false,6,frs false L,0⟩)],2⟩) := by
  intro s hs
  obtain ⟨c,hx,e1,g1⟩ := frss_cut (t:=false) (l:=ls) (i:=0) hne
  change (frss false ls)[(0 : Int).toNat]? = _ at g1
  have hcut := lenS_cut hx
  have hfl := flat_cut hx
  have hle := lenS_take (l:=ls) (i:=0 + 1)
  have hw : IntKind.i64.wrap (0 + 1) = 1 := by decide
  have hw1 : IntKind.i64.wrap 1 = 1 := by decide
  have hcl : c.length < 2000000 := by omega
  simp [lenS] at hcut hfl
  refine loop_s cd52 rfl rfl hs ?_
  refine wa_ (wc_region (w_ (b_ (h:=wo_nil (e_ (h:=aft_normal (wa_ (?_))))))))
  refine c_ (h1:=?_) (h2:=?_)
  rotate_right 1
  focus
   intro c1
   first
   | exact dn c1
   | (have d1 := c1;try simp at d1
      exfalso;rw [decide_eq_false_iff_not] at c1;omega
      )
  rotate_right 1
  focus
   intro c1
   first
   | exact dn c1
   | (have d1 := c1;try simp at d1
      refine wc_skip (?_)
      )
  all_goals first
  | refine aft_exit ?_
  | (refine aft_normal ?_
     refine wa_ (wc_block (wa_ (wc_region (w_ (x_ (h:=w_ (l_ (h:=w_ (a_ (h:=wo_nil (e_ (h:=aft_normal (wc_region (w_ (m_ (h:=w_ (m_ (h:=?_))))))))))))))))))
     refine w_ (ap (h:=w_ (a_ (h:=wo_nil (e_ (h:=blk_normal (aft_normal (wc_region (w_ (b_ (h:=w_ (m_ (h:=wo_nil (e_ (h:=?_)))))))))))))))
     )
  all_goals (refine (l_cat ls hl hs0 1 (by omega) _ ?_).trans (by rw [← lenS_flat,hL]);(simp [normE,hw,hw1,lenS,hcut,hfl];done))
theorem cat_pos (ls : List (List Fr)) (k : Nat) (hl : ls.length < 2000000) (hs0 : lenS ls < 2000000) (hne : 0 < ls.length) (L : List Fr) (hL : ls.flatten = L) : ∀ s,normE 1 (some [6,25,26,27]) s = ⟨[(6,.ref 1 0 0),(25,.lst false 0 (frss false ls)),(26,.int .i64 ls.length),(27,.int .i64 0)],[(1,⟨false,false,6,List.replicate k frZ,0⟩)],2⟩ → oc.loop 52 11 s = some (.exit 2,⟨[(6,.ref 1 0 L.length)],[(1,⟨false,false,6,frs false L,0⟩)],2⟩) := by
  intro s hs
  obtain ⟨c,hx,e1,g1⟩ := frss_cut (t:=false) (l:=ls) (i:=0) hne
  change (frss false ls)[(0 : Int).toNat]? = _ at g1
  have hcut := lenS_cut hx
  have hfl := flat_cut hx
  have hle := lenS_take (l:=ls) (i:=0 + 1)
  have hw : IntKind.i64.wrap (0 + 1) = 1 := by decide
  have hw1 : IntKind.i64.wrap 1 = 1 := by decide
  have hcl : c.length < 2000000 := by omega
  simp [lenS] at hcut hfl
  refine loop_s cd52 rfl rfl hs ?_
  refine wa_ (wc_region (w_ (b_ (h:=wo_nil (e_ (h:=aft_normal (wa_ (?_))))))))
  refine c_ (h1:=?_) (h2:=?_)
  rotate_right 1
  focus
   intro c1
   first
   | exact dn c1
   | (have d1 := c1;try simp at d1
      exfalso;rw [decide_eq_false_iff_not] at c1;omega
      )
  rotate_right 1
  focus
   intro c1
   first
   | exact dn c1
   | (have d1 := c1;try simp at d1
      refine wc_skip (?_)
      )
  all_goals first
  | refine aft_exit ?_
  | (refine aft_normal ?_
     refine wa_ (wc_block (wa_ (wc_region (w_ (x_ (h:=w_ (l_ (h:=w_ (a_ (h:=wo_nil (e_ (h:=aft_normal (wc_region (w_ (m_ (h:=w_ (m_ (h:=?_))))))))))))))))))
     refine w_ (ap (h:=w_ (a_ (h:=wo_nil (e_ (h:=blk_normal (aft_normal (wc_region (w_ (b_ (h:=w_ (m_ (h:=wo_nil (e_ (h:=?_)))))))))))))))
     )
  all_goals (refine (l_cat ls hl hs0 1 (by omega) _ ?_).trans (by rw [← lenS_flat,hL]);(simp [normE,hw,hw1,lenS,hcut,hfl];done))
theorem e_cat (ls : List (List Fr)) (hl : ls.length < 2000000) (hs0 : lenS ls < 2000000) (hne : 0 < ls.length) : oc.call 52 [.lst false 0 (frss false ls)] = some (.lst true 6 (frs false ls.flatten),[]) := by
  obtain ⟨L,hL⟩ : ∃ L,ls.flatten = L := ⟨_,rfl⟩
  rw [hL]
  rcases Nat.eq_zero_or_pos (lenS ls) with hz | hz
  · refine fun_s rfl cd52 rfl rfl rfl (by simp;rfl) (by simp;rfl) ?_
    refine wa_ (wc_region (w_ (aN (h:=wo_nil (e_ (h:=aft_normal (wa_ (wc_region (w_ (a_ (h:=wo_nil (e_ (h:=aft_normal (wa_ (wa_ (?_))))))))))))))))
    refine wc_region (w_ (m_ (h:=w_ (le (h:=w_ (m_ (h:=wo_nil (e_ (h:=aft_normal (wc_block (?_)))))))))))
    refine wc_loop (l_catSz ls hl hs0 0 (by omega) _ (by simp [normE,lenS])) ?_
    refine blk_exit (aft_normal (wa_ (wc_region (w_ (m_ (h:=?_))))))
    first | refine i_ (hc:=(by simp only [hz];exact grow_nil _ _)) (h:=?_)
    refine w_ (a_ (h:=wo_nil (e_ (h:=aft_normal (wa_ (wa_ (wc_region (w_ (m_ (h:=w_ (le (h:=w_ (m_ (h:=wo_nil (e_ (h:=aft_normal (wc_block (?_))))))))))))))))))
    refine wc_loop (cat_nil ls hl hs0 hne L hL _ (by simp [normE])) ?_
    refine blk_exit (aft_normal (wa_ (wc_region (w_ (m_ (h:=w_ (a_ (h:=wo_nil (e_ (h:=aft_normal (wc_ret (?_))))))))))))
    all_goals (refine fin_ (hr:=(res_tmp rfl res_nil)) (h:=?_);(focus (simp)))
  · refine fun_s rfl cd52 rfl rfl rfl (by simp;rfl) (by simp;rfl) ?_
    refine wa_ (wc_region (w_ (aN (h:=wo_nil (e_ (h:=aft_normal (wa_ (wc_region (w_ (a_ (h:=wo_nil (e_ (h:=aft_normal (wa_ (wa_ (?_))))))))))))))))
    refine wc_region (w_ (m_ (h:=w_ (le (h:=w_ (m_ (h:=wo_nil (e_ (h:=aft_normal (wc_block (?_)))))))))))
    refine wc_loop (l_catSz ls hl hs0 0 (by omega) _ (by simp [normE,lenS])) ?_
    refine blk_exit (aft_normal (wa_ (wc_region (w_ (m_ (h:=?_))))))
    first | refine i_ (hc:=grow_pos _ _ (lenS ls : Nat) (by omega) (by omega)) (h:=?_)
    refine w_ (a_ (h:=wo_nil (e_ (h:=aft_normal (wa_ (wa_ (wc_region (w_ (m_ (h:=w_ (le (h:=w_ (m_ (h:=wo_nil (e_ (h:=aft_normal (wc_block (?_))))))))))))))))))
    refine wc_loop (cat_pos ls (lenS ls) hl hs0 hne L hL _ (by simp [normE])) ?_
    refine blk_exit (aft_normal (wa_ (wc_region (w_ (m_ (h:=w_ (a_ (h:=wo_nil (e_ (h:=aft_normal (wc_ret (?_))))))))))))
    all_goals (refine fin_ (hr:=(res_tmp rfl res_nil)) (h:=?_);(focus (simp)))
end Go.Proofs.YtgkbmiaimjpbfaaGreat.Ev
namespace Go.Proofs.YtgkbmiaimjpbfaaGreat.Ev
open Go
set_option maxRecDepth 100000
set_option linter.unusedSimpArgs false
set_option linter.unusedVariables false
set_option maxHeartbeats 2000000
def idxL (p : List Fr → Bool) (i : Nat) : List (List Fr) → Int
  | [] => -1
  | x :: r => if p x = true then i else idxL p (i + 1) r
theorem idxL_any {p : List Fr → Bool} : ∀ {l : List (List Fr)} {i : Nat},decide (0 ≤ idxL p i l) = l.any p
  | [],i => by simp [idxL]
  | x :: r,i => by
    unfold idxL
    by_cases h : p x = true
    · simp [h]
    · simp only [if_neg h,List.any_cons,idxL_any (l:=r) (i:=i + 1)];simp [h]
theorem l_ix_Links (l : List (List Fr))  (p : List Fr → Bool) (hl : l.length < 2000000) (hc : ∀ x ∈ l,oc.call 51 [.lst false 0 (frs false x)] = some (.bool (p x),[])) : ∀ i : Nat,i ≤ l.length → ∀ s,normE 2 (some [0,1,7,8]) s = ⟨[(0,.lst false 0 (frss false l)),(1,.clo 51 []),(7,.int .i64 l.length),(8,.int .i64 i)],[],2⟩ →
    oc.loop 89 2 s = some (if 0 ≤ idxL p i (l.drop i) then (.ret,⟨[(4,.int .i64 (idxL p i (l.drop i)))],[],2⟩) else (.exit 0,⟨[],[],2⟩)) := by
  refine loop_ind (fun i => l.length - i) _ (fun i => ⟨[(0,.lst false 0 (frss false l)),(1,.clo 51 []),(7,.int .i64 l.length),(8,.int .i64 i)],[],2⟩) _ ?_
  intro i hi ih s hs
  refine loop_s cd89 rfl rfl hs ?_
  refine wa_ (wc_region (w_ (b_ (h:=wo_nil (e_ (h:=aft_normal (wa_ (?_))))))))
  refine c_ (h1:=?_) (h2:=?_)
  rotate_right 1
  focus
   intro c1
   first
   | exact dn c1
   | (have d1 := c1;try simp at d1
      refine wc_exit (?_)
      )
  rotate_right 1
  focus
   intro c1
   first
   | exact dn c1
   | (have d1 := c1;try simp at d1
      have hw := wrap_succ (i:=i) (by omega);obtain ⟨x,hx,e1,g1⟩ := frss_cut (t:=false) (l:=l) (i:=i) (by omega);have hq := hc x (List.mem_of_getElem? hx)
      refine wc_skip (?_)
      )
  all_goals first
  | refine aft_exit ?_
  | (refine aft_normal ?_
     refine wa_ (wc_block (wa_ (wc_region (w_ (m_ (h:=w_ (a_ (h:=wo_nil (e_ (h:=aft_normal (wa_ (wc_region (w_ (m_ (h:=w_ (m_ (h:=?_)))))))))))))))))
     refine w_ (m_ (h:=w_ (x_ (h:=w_ (l_ (h:=w_ (?_)))))))
     refine k_callS rfl rfl (by rw [cf_in];rfl) rfl (by rw [cf_md];rfl) (by simp [cf_md,mdT];rfl) (by first | rfl | simp [*]) hq rfl (by simp;rfl) (by simp [cf_md,mdT]) (by simp;rfl) (by simp;rfl) ?_
     refine wo_nil (e_ (h:=aft_normal (?_)))
     refine c_ (h1:=?_) (h2:=?_)
     rotate_right 1
     focus
      intro c2
      first
      | exact dn c2
      | (have d2 := c2;try simp at d2
         refine wc_skip (?_)
         )
     rotate_right 1
     focus
      intro c2
      first
      | exact dn c2
      | (have d2 := c2;try simp at d2
         refine wa_ (wc_region (w_ (m_ (h:=w_ (a_ (h:=wo_nil (e_ (h:=aft_normal (wc_ret (?_))))))))))
         )
     all_goals first | refine blk_normal ?_ | refine blk_ret ?_
     all_goals first
     | refine aft_ret ?_
     | (refine aft_normal ?_
        refine wc_region (w_ (b_ (h:=w_ (m_ (h:=wo_nil (e_ (h:=?_)))))))
        )
     )
  all_goals first
  | (refine (ih (i + 1) (by omega) ?_ _ ?_).trans ?_;(focus (first | omega | (simp;done) | (simp;omega)));(focus (simp [normE,hw];done));(focus (rw [e1];simp only [idxL,if_neg (show ¬ p x = true by simp [d2])])))
  | (apply end_leaf (ex:=Ext.ret) 2 (some [4]);(focus (simp [normE];rfl));(focus (rw [e1];simp [idxL,d2])))
  | (apply end_leaf (ex:=(Ext.exit 0)) 2 (some [4]);(focus (simp [normE];rfl));(focus (rw [List.drop_eq_nil_of_le (by omega)];simp [idxL])))
theorem e_ix_Links (l : List (List Fr))  (p : List Fr → Bool) (hl : l.length < 2000000) (hc : ∀ x ∈ l,oc.call 51 [.lst false 0 (frs false x)] = some (.bool (p x),[])) : oc.call 89 [.lst false 0 (frss false l),.clo 51 []] = some (.int .i64 (if 0 ≤ idxL p 0 l then idxL p 0 l else -1),[]) := by
  refine fun_s rfl cd89 rfl rfl rfl (by simp;rfl) (by simp;rfl) ?_
  refine wa_ (wc_region (w_ (a_ (h:=wo_nil (e_ (h:=aft_normal (wa_ (wa_ (wc_region (w_ (m_ (h:=w_ (le (h:=w_ (m_ (h:=wo_nil (e_ (h:=?_))))))))))))))))))
  refine aft_normal (wc_block (?_))
  refine wc_loopI (l_ix_Links l  p hl hc 0 (by omega) _ (by simp [normE])) ?_ ?_
  rotate_right 1
  focus
   intro c1
   skip
  rotate_right 1
  focus
   intro c1
   skip
  all_goals first | refine blk_ret ?_ | refine blk_exit ?_
  all_goals first
  | refine aft_ret ?_
  | (refine aft_normal ?_
     refine wa_ (wc_region (w_ (a_ (h:=wo_nil (e_ (h:=aft_normal (wc_ret (?_))))))))
     )
  all_goals (refine fin_ (hr:=(res_tmp rfl res_nil)) (h:=?_);(focus (clear hc;first | (simp_all;done) | (simp_all <;> omega))))
theorem e_any_Links (l : List (List Fr))  (p : List Fr → Bool) (hl : l.length < 2000000) (hc : ∀ x ∈ l,oc.call 51 [.lst false 0 (frs false x)] = some (.bool (p x),[])) : oc.call 50 [.lst false 0 (frss false l),.clo 51 []] = some (.bool (l.any p),[]) := by
  refine fun_s rfl cd50 rfl rfl rfl (by simp;rfl) (by simp;rfl) ?_
  refine wa_ (wc_region (w_ (a_ (h:=wo_nil (e_ (h:=aft_normal (wa_ (wc_region (w_ (m_ (h:=w_ (m_ (h:=w_ (ca (hc:=e_ix_Links l  p hl hc) (h:=w_ (b_ (h:=w_ (a_ (h:=?_)))))))))))))))))))
  refine wo_nil (e_ (h:=aft_normal (wc_ret (?_))))
  all_goals (refine fin_ (hr:=(res_tmp rfl res_nil)) (h:=?_);(focus (clear hc;rw [← idxL_any (i:=0)];simp;grind)))
@[simp] theorem Fr.ne_und (t : Bool) (x : Fr) : (x.v t = V.und) = False := by simp [Fr.v]
def wksR (pl : List Nd) : List Wk → Int
  | [] => 0
  | w :: r => if wkC pl w = 0 then wksR pl r else wkC pl w
theorem wksR_0 {pl : List Nd} {w : Wk} {r : List Wk} (h : wkC pl w = 0) : wksR pl (w :: r) = wksR pl r := by rw [wksR,if_pos h]
theorem wksR_1 {pl : List Nd} {w : Wk} {r : List Wk} (h : ¬ wkC pl w = 0) : wksR pl (w :: r) = wkC pl w := by rw [wksR,if_neg h]
def frsR (pl : List Nd) : List Fr → Int
  | [] => 0
  | f :: r => if frC pl f = 0 then frsR pl r else frC pl f
theorem frsR_0 {pl : List Nd} {f : Fr} {r : List Fr} (h : frC pl f = 0) : frsR pl (f :: r) = frsR pl r := by rw [frsR,if_pos h]
theorem frsR_1 {pl : List Nd} {f : Fr} {r : List Fr} (h : ¬ frC pl f = 0) : frsR pl (f :: r) = frC pl f := by rw [frsR,if_neg h]
theorem frsR_app {pl : List Nd} {a b : List Fr} : frsR pl (a ++ b) = if frsR pl a = 0 then frsR pl b else frsR pl a := by
  induction a with
  | nil => simp [frsR]
  | cons x r ih =>
    by_cases h : frC pl x = 0
    · rw [List.cons_append,frsR_0 h,frsR_0 h,ih]
    · rw [List.cons_append,frsR_1 h,frsR_1 h,if_neg h]
def manyF (l : List (List Fr)) : Bool := l.any fun x => decide (60 < x.length)
theorem manyF_cons {x : List Fr} {l : List (List Fr)} : manyF (x :: l) = (decide (60 < x.length) || manyF l) := by simp [manyF]
def clC (c : Cl) : Int :=
  if (1 ≤ c.workers.length ∧ c.workers.length ≤ 3) ∧ c.links.length = c.workers.length * c.workers.length ∧ manyF c.links = false then (if wksR c.plan c.workers = 0 then frsR c.plan c.links.flatten else wksR c.plan c.workers) else 2
def clN (c : Cl) : Int := if (lookN c.plan).2 = 0 then clC c else (lookN c.plan).2
theorem sq_in {n : Nat} (h : n ≤ 3) : n * n ≤ 9 := Nat.le_trans (Nat.mul_le_mul h h) (by omega)
theorem sq_pos {n : Nat} (h : 1 ≤ n) : 1 ≤ n * n := Nat.le_trans (by omega) (Nat.mul_le_mul h h)
theorem lenS_w {l : List (List Fr)} : lenS l ≤ w_Frss l := by
  unfold lenS w_Frss
  induction l with
  | nil => simp
  | cons x r ih => have := w_Frs_len (l:=x);simp only [wS_cons,List.length_cons];omega
theorem flat_w {l : List (List Fr)} {f : Fr} (h : f ∈ l.flatten) : w_Fr f ≤ w_Frss l := by
  obtain ⟨x,hx,hf⟩ := List.mem_flatten.1 h
  have h1 := w_Frss_mem hx
  have h2 := w_Frs_mem hf
  omega
theorem e_many (l : List Fr) (h : l.length < 2000000) : oc.call 51 [.lst false 0 (frs false l)] = some (.bool (decide (60 < l.length)),[]) := by
  refine fun_s rfl cd51 rfl rfl rfl (by simp;rfl) (by simp;rfl) ?_
  refine wa_ (wc_region (w_ (a_ (h:=wo_nil (e_ (h:=aft_normal (wa_ (wc_region (w_ (m_ (h:=w_ (le (h:=w_ (b_ (h:=w_ (a_ (h:=wo_nil (e_ (h:=?_)))))))))))))))))))
  refine aft_normal (wc_ret (?_))
  all_goals (refine fin_ (hr:=(res_tmp rfl res_nil)) (h:=?_);(focus (simp;omega)))
theorem l_cl1 (c : Cl) (hp : c.plan.length < 2000000) (hk : okN c.plan) (h0 : (lookN c.plan).2 = 0) (hx : w_Wks c.workers < 2000000) : ∀ i : Nat,(i ≤ c.workers.length) → ∀ s,normE 1 (some [1,3,42,43,44]) s = ⟨[(1,.ptr 1 0 []),(3,.ref 2 0 (widN c.plan).length),(42,.lst false 0 (wks false c.workers)),(43,.int .i64 c.workers.length),(44,.int .i64 i)],[(1,⟨true,false,3,[c.v false],0⟩),(2,⟨false,false,1,ints (widN c.plan),0⟩)],3⟩ →
    oc.loop 17 8 s = some (if wksR c.plan (c.workers.drop i) = 0 then (.exit 0,⟨[(1,.ptr 1 0 []),(3,.ref 2 0 (widN c.plan).length)],[(1,⟨true,false,3,[c.v false],0⟩),(2,⟨false,false,1,ints (widN c.plan),0⟩)],3⟩) else (.ret,⟨[(1,.ptr 1 0 []),(2,.int .i64 (wksR c.plan (c.workers.drop i))),(3,.ref 2 0 (widN c.plan).length)],[(1,⟨true,false,3,[c.v false],0⟩),(2,⟨false,false,1,ints (widN c.plan),0⟩)],3⟩)) := by
  refine loop_ind (σ:=Nat) (fun i => c.workers.length - i) _ (fun i => ⟨[(1,.ptr 1 0 []),(3,.ref 2 0 (widN c.plan).length),(42,.lst false 0 (wks false c.workers)),(43,.int .i64 c.workers.length),(44,.int .i64 i)],[(1,⟨true,false,3,[c.v false],0⟩),(2,⟨false,false,1,ints (widN c.plan),0⟩)],3⟩) _ ?_
  intro i hi ih s hs
  refine loop_s cd17 rfl rfl hs ?_
  have hlen := w_Wks_len (l:=c.workers)
  refine wa_ (wc_region (w_ (b_ (h:=wo_nil (e_ (h:=aft_normal (wa_ (?_))))))))
  refine c_ (h1:=?_) (h2:=?_)
  rotate_right 1
  focus
   intro c1
   first
   | exact dn c1
   | (have d1 := c1;try simp at d1
      refine wc_exit (?_)
      )
  rotate_right 1
  focus
   intro c1
   first
   | exact dn c1
   | (have d1 := c1;try simp at d1
      have hw := wrap_succ (i:=i) (by omega);obtain ⟨b,hb,e1,g1⟩ := wks_cut (t:=false) (l:=c.workers) (i:=i) (by omega);have hbw := w_Wks_mem (List.mem_of_getElem? hb)
      refine wc_skip (?_)
      )
  all_goals first
  | refine aft_exit ?_
  | (refine aft_normal ?_
     refine wa_ (wc_block (wa_ (wc_region (w_ (x_ (h:=w_ (l_ (h:=w_ (al (h:=w0 (s_ (h:=wo_nil (e_ (h:=aft_normal (wa_ (wc_region (?_)))))))))))))))))
     refine w_ (f_ (h:=w_ (l_ (h:=w_ (m_ (h:=w_ (l_ (h:=w_ (ca (hc:=e_wkI2 c.plan b hp hk h0 (by omega)) (h:=w_ (a_ (h:=wo_nil (e_ (h:=aft_normal (wa_ (wc_region (w_ (m_ (h:=w_ (bE (h:=?_)))))))))))))))))))))
     refine wo_nil (e_ (h:=aft_normal (?_)))
     refine c_ (h1:=?_) (h2:=?_)
     rotate_right 1
     focus
      intro c2
      first
      | exact dn c2
      | (have d2 := c2;try simp at d2
         refine wc_skip (?_)
         )
     rotate_right 1
     focus
      intro c2
      first
      | exact dn c2
      | (have d2 := c2;try simp at d2
         refine wa_ (wc_region (w_ (m_ (h:=w_ (a_ (h:=wo_nil (e_ (h:=aft_normal (wc_ret (?_))))))))))
         )
     all_goals first | refine blk_normal ?_ | refine blk_ret ?_
     all_goals first
     | refine aft_ret ?_
     | (refine aft_normal ?_
        refine wc_region (w_ (b_ (h:=w_ (m_ (h:=wo_nil (e_ (h:=?_)))))))
        )
     )
  all_goals first
  | (refine (ih (i + 1) (by omega) ?_ _ ?_).trans ?_;(focus (first | omega | (simp;done) | (simp;omega)));(focus (simp [normE,hw];done));(focus (rw [e1,wksR_0 d2])))
  | (apply end_leaf (ex:=Ext.ret) 1 (some [1,2,3]);(focus (simp [normE];rfl));(focus (rw [e1,wksR_1 d2];simp [d2])))
  | (apply end_leaf (ex:=(Ext.exit 0)) 1 (some [1,2,3]);(focus (simp [normE];rfl));(focus (rw [List.drop_eq_nil_of_le (by omega)];simp [wksR])))
theorem l_cl2 (c : Cl) (L : List Fr) (hp : c.plan.length < 2000000) (hk : okN c.plan) (h0 : (lookN c.plan).2 = 0) (hL : L.length < 2000000) (hx : ∀ f ∈ L,w_Fr f < 2000000) : ∀ i : Nat,(i ≤ L.length) → ∀ s,normE 1 (some [1,3,59,60,61]) s = ⟨[(1,.ptr 1 0 []),(3,.ref 2 0 (widN c.plan).length),(59,.ref 3 0 L.length),(60,.int .i64 L.length),(61,.int .i64 i)],[(1,⟨true,false,3,[c.v false],0⟩),(2,⟨false,false,1,ints (widN c.plan),0⟩),(3,⟨false,false,6,frs false L,0⟩)],4⟩ →
    oc.loop 17 15 s = some (if frsR c.plan (L.drop i) = 0 then (.exit 2,⟨[],[],1⟩) else (.ret,⟨[(2,.int .i64 (frsR c.plan (L.drop i)))],[],1⟩)) := by
  refine loop_ind (σ:=Nat) (fun i => L.length - i) _ (fun i => ⟨[(1,.ptr 1 0 []),(3,.ref 2 0 (widN c.plan).length),(59,.ref 3 0 L.length),(60,.int .i64 L.length),(61,.int .i64 i)],[(1,⟨true,false,3,[c.v false],0⟩),(2,⟨false,false,1,ints (widN c.plan),0⟩),(3,⟨false,false,6,frs false L,0⟩)],4⟩) _ ?_
  intro i hi ih s hs
  refine loop_s cd17 rfl rfl hs ?_
  refine wa_ (wc_region (w_ (b_ (h:=wo_nil (e_ (h:=aft_normal (wa_ (?_))))))))
  refine c_ (h1:=?_) (h2:=?_)
  rotate_right 1
  focus
   intro c1
   first
   | exact dn c1
   | (have d1 := c1;try simp at d1
      refine wc_exit (?_)
      )
  rotate_right 1
  focus
   intro c1
   first
   | exact dn c1
   | (have d1 := c1;try simp at d1
      have hw := wrap_succ (i:=i) (by omega);obtain ⟨b,hb,e1,g1⟩ := frs_cut (t:=false) (l:=L) (i:=i) (by omega);have hbw := hx b (List.mem_of_getElem? hb)
      refine wc_skip (?_)
      )
  all_goals first
  | refine aft_exit ?_
  | (refine aft_normal ?_
     refine wa_ (wc_block (wa_ (wc_region (w_ (x_ (h:=w_ (l_ (h:=w_ (al (h:=w0 (s_ (h:=wo_nil (e_ (h:=aft_normal (wa_ (wc_region (?_)))))))))))))))))
     refine w_ (f_ (h:=w_ (l_ (h:=w_ (m_ (h:=w_ (l_ (h:=w_ (ca (hc:=e_frI2 c.plan b hp hk h0 hbw) (h:=w_ (a_ (h:=wo_nil (e_ (h:=aft_normal (wa_ (wc_region (w_ (m_ (h:=w_ (bE (h:=?_)))))))))))))))))))))
     refine wo_nil (e_ (h:=aft_normal (?_)))
     refine c_ (h1:=?_) (h2:=?_)
     rotate_right 1
     focus
      intro c2
      first
      | exact dn c2
      | (have d2 := c2;try simp at d2
         refine wc_skip (?_)
         )
     rotate_right 1
     focus
      intro c2
      first
      | exact dn c2
      | (have d2 := c2;try simp at d2
         refine wa_ (wc_region (w_ (m_ (h:=w_ (a_ (h:=wo_nil (e_ (h:=aft_normal (wc_ret (?_))))))))))
         )
     all_goals first | refine blk_normal ?_ | refine blk_ret ?_
     all_goals first
     | refine aft_ret ?_
     | (refine aft_normal ?_
        refine wc_region (w_ (b_ (h:=w_ (m_ (h:=wo_nil (e_ (h:=?_)))))))
        )
     )
  all_goals first
  | (refine (ih (i + 1) (by omega) ?_ _ ?_).trans ?_;(focus (first | omega | (simp;done) | (simp;omega)));(focus (simp [normE,hw];done));(focus (rw [e1,frsR_0 d2])))
  | (apply end_leaf (ex:=Ext.ret) 1 (some [2]);(focus (simp [normE];rfl));(focus (rw [e1,frsR_1 d2];simp [d2])))
  | (apply end_leaf (ex:=(Ext.exit 2)) 1 (some [2]);(focus (simp [normE];rfl));(focus (rw [List.drop_eq_nil_of_le (by omega)];simp [frsR])))
theorem e_clI (c : Cl) (hp : c.plan.length < 2000000) (hk : okN c.plan) (hx : w_Wks c.workers < 2000000) (hy : w_Frss c.links < 2000000) : oc.call 17 [c.v false] = some (.int .i64 (clN c),[]) := by
  refine fun_s rfl cd17 rfl rfl rfl (by simp;rfl) (by simp;rfl) ?_
  have hl1 := w_Wks_len (l:=c.workers)
  have hl2 := w_Frss_len (l:=c.links)
  have hl3 := lenS_w (l:=c.links)
  have hl4 := lenS_flat (l:=c.links)
  have hl5 : ∀ f ∈ c.links.flatten,w_Fr f < 2000000 := fun f hf => by have := flat_w hf;omega
  have hsq : c.workers.length ≤ 3 → IntKind.i64.wrap ((c.workers.length : Int) * c.workers.length) = ((c.workers.length * c.workers.length : Nat) : Int) := fun h => by have := sq_in h;rw [wrap_id (by push_cast at *;omega) (by push_cast at *;omega)];push_cast;rfl
  refine wa_ (wc_region (w_ (bx (h:=w_ (a_ (h:=wo_nil (e_ (h:=aft_normal (wa_ (wc_region (w_ (f_ (h:=w_ (l_ (h:=w_ (ca (hc:=e_looked c.plan hp hk) (h:=w_ (m_ (h:=?_)))))))))))))))))))
  refine w_ (ex (h:=w_ (ex (h:=w_ (a_ (h:=w_ (a_ (h:=wo_nil (e_ (h:=aft_normal (wa_ (wa_ (wc_region (w_ (m_ (h:=w_ (bE (h:=wo_nil (e_ (h:=?_))))))))))))))))))))
  refine aft_normal (?_)
  refine c_ (h1:=?_) (h2:=?_)
  rotate_right 1
  focus
   intro c1
   first
   | exact dn c1
   | (have d1 := c1;try simp at d1
      refine wc_skip (?_)
      )
  rotate_right 1
  focus
   intro c1
   first
   | exact dn c1
   | (have d1 := c1;try simp at d1
      refine wa_ (wc_region (w_ (m_ (h:=w_ (a_ (h:=wo_nil (e_ (h:=aft_normal (wc_ret (?_))))))))))
      )
  all_goals first
  | refine aft_ret ?_
  | (refine aft_normal ?_
     refine wa_ (wc_region (w_ (f_ (h:=w_ (l_ (h:=w_ (le (h:=w_ (a_ (h:=wo_nil (e_ (h:=aft_normal (wa_ (wa_ (wc_region (w_ (m_ (h:=?_))))))))))))))))))
     refine w_ (ca (hc:=e_in _ _ _) (h:=w_ (u_ (h:=w_ (m_ (h:=?_))))))
     refine gw_ (h1:=?_) (h2:=?_)
     rotate_right 1
     focus
      intro c2
      first
      | exact dn c2
      | (have d2 := c2;try simp at d2
         refine go_ (h:=go_ (h:=go_ (h:=go_ (h:=go_ (h:=go_ (h:=go_ (h:=?_)))))))
         )
     rotate_right 1
     focus
      intro c2
      first
      | exact dn c2
      | (have d2 := c2;try simp at d2
         refine g_ (h:=w_ (f_ (h:=g_ (h:=w_ (l_ (h:=g_ (h:=w_ (le (h:=g_ (h:=w_ (m_ (h:=g_ (h:=w_ (m_ (h:=g_ (h:=w_ (b_ (h:=g_ (h:=w_ (bE (h:=?_)))))))))))))))))))))
         )
     all_goals
      refine w_ (pk (h:=w_ (m_ (h:=?_))))
      refine gw_ (h1:=?_) (h2:=?_)
      rotate_right 1
      focus
       intro c3
       first
       | exact dn c3
       | (have d3 := c3;try simp at d3
          refine go_ (h:=go_ (h:=go_ (h:=?_)))
          )
      rotate_right 1
      focus
       intro c3
       first
       | exact dn c3
       | (have d3 := c3;try simp at d3
          refine g_ (h:=w_ (f_ (h:=g_ (h:=w_ (l_ (h:=g_ (h:=w_ (ca (hc:=e_any_Links c.links (fun x => decide (60 < x.length)) (by omega) (fun x hx => e_many x (by have := w_Frss_mem hx;have := w_Frs_len (l:=x);omega))) (h:=?_)))))))))
          )
      all_goals
       refine w_ (pk (h:=wo_nil (e_ (h:=?_))))
     all_goals first
     | (refine aft_normal ?_
        refine c_ (h1:=?_) (h2:=?_)
        rotate_right 1
        focus
         intro c4
         first
         | exact dn c4
         | (have d4 := c4;try simp at d4
            have hm3 : 1 ≤ c.workers.length ∧ c.workers.length ≤ 3 := (by simp [inI] at d2;omega);have hsq2 := hsq hm3.2;have hnn := sq_pos hm3.1;have hll : c.links.length = c.workers.length * c.workers.length := (by rw [hsq2] at d3;exact_mod_cast d3);have hne : 0 < c.links.length := (by omega);have hmf : manyF c.links = false := (by simp only [manyF];simpa using d4)
            refine wc_skip (?_)
            )
        rotate_right 1
        focus
         intro c4
         first
         | exact dn c4
         | (have d4 := c4;try simp at d4
            have hbad : ¬ ((1 ≤ c.workers.length ∧ c.workers.length ≤ 3) ∧ c.links.length = c.workers.length * c.workers.length ∧ manyF c.links = false) := (by rintro ⟨ha,hb,hc⟩;have hsq2 := hsq ha.2;first | (simp [inI] at d2;omega) | (rw [hsq2,hb] at d3;simp at d3;done) | (simp [manyF] at hc d4;obtain ⟨x,hx1,hx2⟩ := d4;have := hc x hx1;omega))
            refine wa_ (wc_region (w_ (a_ (h:=wo_nil (e_ (h:=aft_normal (wc_ret (?_))))))))
            )
        )
     all_goals first
     | refine aft_ret ?_
     | (refine aft_normal ?_
        refine wa_ (wa_ (wc_region (w_ (f_ (h:=w_ (l_ (h:=w_ (le (h:=w_ (m_ (h:=wo_nil (e_ (h:=aft_normal (wc_block (?_)))))))))))))))
        refine wc_loopI (l_cl1 c hp hk d1 hx 0 (by omega) _ (by simp [normE,widN])) ?_ ?_
        rotate_right 1
        focus
         intro c5
         first
         | exact dn c5
         | (have d5 := c5;try simp at d5
            skip
            )
        rotate_right 1
        focus
         intro c5
         first
         | exact dn c5
         | (have d5 := c5;try simp at d5
            skip
            )
        all_goals first | refine blk_ret ?_ | refine blk_exit ?_
        all_goals first
        | refine aft_ret ?_
        | (refine aft_normal ?_
           refine wa_ (wa_ (wc_region (w_ (f_ (h:=w_ (l_ (h:=w_ (ca (hc:=e_cat c.links (by omega) (by omega) hne) (h:=w_ (le (h:=w_ (m_ (h:=wo_nil (e_ (h:=aft_normal (wc_block (?_)))))))))))))))))
           refine wc_loopI (l_cl2 c c.links.flatten hp hk d1 (by omega) hl5 0 (by omega) _ (by simp [normE,widN])) ?_ ?_
           rotate_right 1
           focus
            intro c6
            first
            | exact dn c6
            | (have d6 := c6;try simp at d6
               skip
               )
           rotate_right 1
           focus
            intro c6
            first
            | exact dn c6
            | (have d6 := c6;try simp at d6
               skip
               )
           all_goals first | refine blk_ret ?_ | refine blk_exit ?_
           all_goals first
           | refine aft_ret ?_
           | (refine aft_normal ?_
              refine wa_ (wc_region (w_ (a_ (h:=wo_nil (e_ (h:=aft_normal (wc_ret (?_))))))))
              )
           )
        )
     )
  all_goals (refine fin_ (hr:=(res_tmp rfl res_nil)) (h:=?_);(focus (clear hk hx hy hl5;first | (simp [clN,clC,hbad, *];done) | (simp only [clN,clC,if_pos (And.intro hm3 (And.intro hll hmf))];simp at *;simp [*];done) | (simp [clN, *];done))))
theorem l_clS1 (c : Cl) (m : Int) (hx : w_Frss c.links < 2000000) : ∀ i : Nat,(i ≤ c.links.length) → ∀ s,normE 1 (some [1,4,5]) s = ⟨[(1,.ptr 1 0 []),(4,.int .i64 m),(5,.int .i64 i)],[(1,⟨true,false,3,[c.v false],0⟩)],2⟩ →
    oc.loop 15 8 s = some (if manyF (c.links.drop i) = true then (.ret,⟨[(1,.ptr 1 0 []),(2,.int .i64 2),(4,.int .i64 m)],[(1,⟨true,false,3,[c.v false],0⟩)],2⟩) else (.exit 0,⟨[(1,.ptr 1 0 []),(4,.int .i64 m)],[(1,⟨true,false,3,[c.v false],0⟩)],2⟩)) := by
  refine loop_ind (σ:=Nat) (fun i => c.links.length - i) _ (fun i => ⟨[(1,.ptr 1 0 []),(4,.int .i64 m),(5,.int .i64 i)],[(1,⟨true,false,3,[c.v false],0⟩)],2⟩) _ ?_
  intro i hi ih s hs
  refine loop_s cd15 rfl rfl hs ?_
  have hlen := w_Frss_len (l:=c.links)
  refine wa_ (wa_ (wc_region (w_ (m_ (h:=w_ (f_ (h:=w_ (l_ (h:=w_ (le (h:=w_ (b_ (h:=wo_nil (e_ (h:=aft_normal (?_))))))))))))))))
  refine c_ (h1:=?_) (h2:=?_)
  rotate_right 1
  focus
   intro c1
   first
   | exact dn c1
   | (have d1 := c1;try simp at d1
      refine wc_exit (?_)
      )
  rotate_right 1
  focus
   intro c1
   first
   | exact dn c1
   | (have d1 := c1;try simp at d1
      have hw := wrap_succ (i:=i) (by omega);obtain ⟨b,hb,e1,g1⟩ := frss_cut (t:=false) (l:=c.links) (i:=i) (by omega)
      refine wc_skip (?_)
      )
  all_goals first
  | refine aft_exit ?_
  | (refine aft_normal ?_
     refine wa_ (wc_block (wa_ (wc_region (w_ (f_ (h:=w_ (l_ (h:=w_ (m_ (h:=w_ (x_ (h:=w_ (l_ (h:=w_ (le (h:=w_ (b_ (h:=wo_nil (e_ (h:=?_))))))))))))))))))))
     refine aft_normal (?_)
     refine c_ (h1:=?_) (h2:=?_)
     rotate_right 1
     focus
      intro c2
      first
      | exact dn c2
      | (have d2 := c2;try simp at d2
         refine wc_skip (?_)
         )
     rotate_right 1
     focus
      intro c2
      first
      | exact dn c2
      | (have d2 := c2;try simp at d2
         refine wa_ (wc_region (w_ (a_ (h:=wo_nil (e_ (h:=aft_normal (wc_ret (?_))))))))
         )
     all_goals first | refine blk_normal ?_ | refine blk_ret ?_
     all_goals first
     | refine aft_ret ?_
     | (refine aft_normal ?_
        refine wc_region (w_ (m_ (h:=w_ (b_ (h:=w_ (a_ (h:=wo_nil (e_ (h:=?_)))))))))
        )
     )
  all_goals first
  | (refine (ih (i + 1) (by omega) ?_ _ ?_).trans ?_;(focus (first | omega | (simp;done) | (simp;omega)));(focus (simp [normE,hw];done));(focus (rw [e1,manyF_cons,decide_eq_false (by omega)];simp)))
  | (apply end_leaf (ex:=Ext.ret) 1 (some [1,2,4]);(focus (simp [normE];rfl));(focus (rw [e1,manyF_cons,decide_eq_true (by omega)];simp)))
  | (apply end_leaf (ex:=(Ext.exit 0)) 1 (some [1,2,4]);(focus (simp [normE];rfl));(focus (rw [List.drop_eq_nil_of_le (by omega)];simp [manyF])))
theorem l_clS2 (c : Cl) (hp : c.plan.length < 2000000) (hk : okN c.plan) (h0 : (lookN c.plan).2 = 0) (hx : w_Wks c.workers < 2000000) : ∀ i : Nat,(i ≤ c.workers.length) → ∀ s,normE 1 (some [1,4,6]) s = ⟨[(1,.ptr 1 0 []),(4,.int .i64 c.workers.length),(6,.int .i64 i)],[(1,⟨true,false,3,[c.v false],0⟩)],2⟩ →
    oc.loop 15 13 s = some (if wksR c.plan (c.workers.drop i) = 0 then (.exit 2,⟨[(1,.ptr 1 0 [])],[(1,⟨true,false,3,[c.v false],0⟩)],2⟩) else (.ret,⟨[(1,.ptr 1 0 []),(2,.int .i64 (wksR c.plan (c.workers.drop i)))],[(1,⟨true,false,3,[c.v false],0⟩)],2⟩)) := by
  refine loop_ind (σ:=Nat) (fun i => c.workers.length - i) _ (fun i => ⟨[(1,.ptr 1 0 []),(4,.int .i64 c.workers.length),(6,.int .i64 i)],[(1,⟨true,false,3,[c.v false],0⟩)],2⟩) _ ?_
  intro i hi ih s hs
  refine loop_s cd15 rfl rfl hs ?_
  have hlen := w_Wks_len (l:=c.workers)
  refine wa_ (wa_ (wc_region (w_ (m_ (h:=w_ (m_ (h:=w_ (b_ (h:=wo_nil (e_ (h:=aft_normal (?_))))))))))))
  refine c_ (h1:=?_) (h2:=?_)
  rotate_right 1
  focus
   intro c1
   first
   | exact dn c1
   | (have d1 := c1;try simp at d1
      refine wc_exit (?_)
      )
  rotate_right 1
  focus
   intro c1
   first
   | exact dn c1
   | (have d1 := c1;try simp at d1
      have hw := wrap_succ (i:=i) (by omega);obtain ⟨b,hb,e1,g1⟩ := wks_cut (t:=false) (l:=c.workers) (i:=i) (by omega);have hbw := w_Wks_mem (List.mem_of_getElem? hb);have hwk : wkN c.plan b = wkC c.plan b := (by unfold wkN;rw [if_pos h0])
      refine wc_skip (?_)
      )
  all_goals first
  | refine aft_exit ?_
  | (refine aft_normal ?_
     refine wa_ (wc_block (wa_ (wc_draw (y_ (f_ (h:=ax_ (h:=y_ (l_ (h:=ax_ (h:=y_ (f_ (h:=ax_ (h:=y_ (l_ (h:=ax_ (h:=y_ (m_ (h:=ax_ (h:=y_ (x_ (h:=ax_ (h:=y_ (l_ (h:=ax_ (h:=y_ (ca (hc:=hwk ▸ e_workS c.plan b hp hk (by omega)) (h:=ax_ (h:=?_))))))))))))))))))))))))))))
     refine y_ (a_ (h:=ax_ (h:=wo_nil (ed (h:=aft_normal (wa_ (wc_region (w_ (m_ (h:=w_ (bE (h:=wo_nil (e_ (h:=aft_normal (?_)))))))))))))))
     refine c_ (h1:=?_) (h2:=?_)
     rotate_right 1
     focus
      intro c2
      first
      | exact dn c2
      | (have d2 := c2;try simp at d2
         refine wc_skip (?_)
         )
     rotate_right 1
     focus
      intro c2
      first
      | exact dn c2
      | (have d2 := c2;try simp at d2
         refine wa_ (wc_region (w_ (m_ (h:=w_ (a_ (h:=wo_nil (e_ (h:=aft_normal (wc_ret (?_))))))))))
         )
     all_goals first | refine blk_normal ?_ | refine blk_ret ?_
     all_goals first
     | refine aft_ret ?_
     | (refine aft_normal ?_
        refine wc_region (w_ (m_ (h:=w_ (b_ (h:=w_ (a_ (h:=wo_nil (e_ (h:=?_)))))))))
        )
     )
  all_goals first
  | (refine (ih (i + 1) (by omega) ?_ _ ?_).trans ?_;(focus (first | omega | (simp;done) | (simp;omega)));(focus (simp [normE,hw];done));(focus (rw [e1,wksR_0 d2])))
  | (apply end_leaf (ex:=Ext.ret) 1 (some [1,2]);(focus (simp [normE];rfl));(focus (rw [e1,wksR_1 d2];simp [d2])))
  | (apply end_leaf (ex:=(Ext.exit 2)) 1 (some [1,2]);(focus (simp [normE];rfl));(focus (rw [List.drop_eq_nil_of_le (by omega)];simp [wksR])))
theorem l_clS4 (c : Cl) (k : Nat) (l : List Fr) (hl : c.links[k]? = some l) (hlg : (frss false c.links)[(k : Int).toNat]? = some (.lst false 0 (frs false l))) (hp : c.plan.length < 2000000) (hk : okN c.plan) (h0 : (lookN c.plan).2 = 0) (hx : w_Frs l < 2000000) : ∀ i : Nat,(i ≤ l.length) → ∀ s,normE 1 (some [1,8,9]) s = ⟨[(1,.ptr 1 0 []),(8,.int .i64 k),(9,.int .i64 i)],[(1,⟨true,false,3,[c.v false],0⟩)],2⟩ →
    oc.loop 15 22 s = some (if frsR c.plan (l.drop i) = 0 then (.exit 6,⟨[(1,.ptr 1 0 []),(8,.int .i64 k)],[(1,⟨true,false,3,[c.v false],0⟩)],2⟩) else (.ret,⟨[(1,.ptr 1 0 []),(2,.int .i64 (frsR c.plan (l.drop i))),(8,.int .i64 k)],[(1,⟨true,false,3,[c.v false],0⟩)],2⟩)) := by
  refine loop_ind (σ:=Nat) (fun i => l.length - i) _ (fun i => ⟨[(1,.ptr 1 0 []),(8,.int .i64 k),(9,.int .i64 i)],[(1,⟨true,false,3,[c.v false],0⟩)],2⟩) _ ?_
  intro i hi ih s hs
  refine loop_s cd15 rfl rfl hs ?_
  have hlen := w_Frs_len (l:=l)
  refine wa_ (wa_ (wc_region (w_ (m_ (h:=w_ (f_ (h:=w_ (l_ (h:=w_ (m_ (h:=w_ (x_ (h:=w_ (l_ (h:=w_ (le (h:=w_ (b_ (h:=wo_nil (e_ (h:=?_)))))))))))))))))))))
  refine aft_normal (?_)
  refine c_ (h1:=?_) (h2:=?_)
  rotate_right 1
  focus
   intro c1
   first
   | exact dn c1
   | (have d1 := c1;try simp at d1
      refine wc_exit (?_)
      )
  rotate_right 1
  focus
   intro c1
   first
   | exact dn c1
   | (have d1 := c1;try simp at d1
      have hw := wrap_succ (i:=i) (by omega);obtain ⟨b,hb,e1,g1⟩ := frs_cut (t:=false) (l:=l) (i:=i) (by omega);have hbw := w_Frs_mem (List.mem_of_getElem? hb);have hfr : frN0 c.plan b = frC c.plan b := (by unfold frN0;rw [if_pos h0])
      refine wc_skip (?_)
      )
  all_goals first
  | refine aft_exit ?_
  | (refine aft_normal ?_
     refine wa_ (wc_block (wa_ (wc_draw (y_ (f_ (h:=ax_ (h:=y_ (l_ (h:=ax_ (h:=y_ (f_ (h:=ax_ (h:=y_ (l_ (h:=ax_ (h:=y_ (m_ (h:=ax_ (h:=y_ (x_ (h:=ax_ (h:=y_ (l_ (h:=ax_ (h:=y_ (m_ (h:=ax_ (h:=?_))))))))))))))))))))))))))))
     refine y_ (x_ (h:=ax_ (h:=y_ (l_ (h:=ax_ (h:=y_ (ca (hc:=hfr ▸ e_frameS c.plan b hp hk (by omega)) (h:=ax_ (h:=y_ (a_ (h:=ax_ (h:=wo_nil (ed (h:=aft_normal (wa_ (wc_region (w_ (m_ (h:=w_ (bE (h:=wo_nil (e_ (h:=aft_normal (?_))))))))))))))))))))))))
     refine c_ (h1:=?_) (h2:=?_)
     rotate_right 1
     focus
      intro c2
      first
      | exact dn c2
      | (have d2 := c2;try simp at d2
         refine wc_skip (?_)
         )
     rotate_right 1
     focus
      intro c2
      first
      | exact dn c2
      | (have d2 := c2;try simp at d2
         refine wa_ (wc_region (w_ (m_ (h:=w_ (a_ (h:=wo_nil (e_ (h:=aft_normal (wc_ret (?_))))))))))
         )
     all_goals first | refine blk_normal ?_ | refine blk_ret ?_
     all_goals first
     | refine aft_ret ?_
     | (refine aft_normal ?_
        refine wc_region (w_ (m_ (h:=w_ (b_ (h:=w_ (a_ (h:=wo_nil (e_ (h:=?_)))))))))
        )
     )
  all_goals first
  | (refine (ih (i + 1) (by omega) ?_ _ ?_).trans ?_;(focus (first | omega | (simp;done) | (simp;omega)));(focus (simp [normE,hw];done));(focus (rw [e1,frsR_0 d2])))
  | (apply end_leaf (ex:=Ext.ret) 1 (some [1,2,8]);(focus (simp [normE];rfl));(focus (rw [e1,frsR_1 d2];simp [d2])))
  | (apply end_leaf (ex:=(Ext.exit 6)) 1 (some [1,2,8]);(focus (simp [normE];rfl));(focus (rw [List.drop_eq_nil_of_le (by omega)];simp [frsR])))
theorem l_clS3 (c : Cl) (hp : c.plan.length < 2000000) (hk : okN c.plan) (h0 : (lookN c.plan).2 = 0) (hx : w_Frss c.links < 2000000) : ∀ i : Nat,(i ≤ c.links.length) → ∀ s,normE 1 (some [1,8]) s = ⟨[(1,.ptr 1 0 []),(8,.int .i64 i)],[(1,⟨true,false,3,[c.v false],0⟩)],2⟩ →
    oc.loop 15 19 s = some (if frsR c.plan (c.links.drop i).flatten = 0 then (.exit 4,⟨[],[],1⟩) else (.ret,⟨[(2,.int .i64 (frsR c.plan (c.links.drop i).flatten))],[],1⟩)) := by
  refine loop_ind (σ:=Nat) (fun i => c.links.length - i) _ (fun i => ⟨[(1,.ptr 1 0 []),(8,.int .i64 i)],[(1,⟨true,false,3,[c.v false],0⟩)],2⟩) _ ?_
  intro i hi ih s hs
  refine loop_s cd15 rfl rfl hs ?_
  have hlen := w_Frss_len (l:=c.links)
  refine wa_ (wa_ (wc_region (w_ (m_ (h:=w_ (f_ (h:=w_ (l_ (h:=w_ (le (h:=w_ (b_ (h:=wo_nil (e_ (h:=aft_normal (?_))))))))))))))))
  refine c_ (h1:=?_) (h2:=?_)
  rotate_right 1
  focus
   intro c1
   first
   | exact dn c1
   | (have d1 := c1;try simp at d1
      refine wc_exit (?_)
      )
  rotate_right 1
  focus
   intro c1
   first
   | exact dn c1
   | (have d1 := c1;try simp at d1
      have hw := wrap_succ (i:=i) (by omega);obtain ⟨b,hb,e1,g1⟩ := frss_cut (t:=false) (l:=c.links) (i:=i) (by omega);have hbw := w_Frss_mem (List.mem_of_getElem? hb);have hfa : frsR c.plan (c.links.drop i).flatten = if frsR c.plan b = 0 then frsR c.plan (c.links.drop (i + 1)).flatten else frsR c.plan b := (by rw [e1,List.flatten_cons,frsR_app])
      refine wc_skip (?_)
      )
  all_goals first
  | refine aft_exit ?_
  | (refine aft_normal ?_
     refine wa_ (wc_block (wa_ (wc_region (w_ (a_ (h:=wo_nil (e_ (h:=aft_normal (wc_block (?_))))))))))
     refine wc_loopI (l_clS4 c i b hb g1 hp hk h0 (by omega) 0 (by omega) _ (by simp [normE])) ?_ ?_
     rotate_right 1
     focus
      intro c2
      first
      | exact dn c2
      | (have d2 := c2;try simp at d2
         skip
         )
     rotate_right 1
     focus
      intro c2
      first
      | exact dn c2
      | (have d2 := c2;try simp at d2
         skip
         )
     all_goals first | refine blk_ret ?_ | refine blk_exit ?_
     all_goals first | refine blk_normal ?_ | refine blk_ret ?_
     all_goals first
     | refine aft_ret ?_
     | (refine aft_normal ?_
        refine wc_region (w_ (m_ (h:=w_ (b_ (h:=w_ (a_ (h:=wo_nil (e_ (h:=?_)))))))))
        )
     )
  all_goals first
  | (refine (ih (i + 1) (by omega) ?_ _ ?_).trans ?_;(focus (first | omega | (simp;done) | (simp;omega)));(focus (simp [normE,hw];done));(focus (have hb0 : frsR c.plan b = 0 := (by simpa using d2);rw [hfa,if_pos hb0])))
  | (apply end_leaf (ex:=Ext.ret) 1 (some [2]);(focus (simp [normE];rfl));(focus (have hb0 : ¬ frsR c.plan b = 0 := (by simpa using d2);rw [hfa,if_neg hb0];simp [hb0])))
  | (apply end_leaf (ex:=(Ext.exit 4)) 1 (some [2]);(focus (simp [normE];rfl));(focus (rw [List.drop_eq_nil_of_le (by omega)];simp [frsR])))
theorem e_clS (c : Cl) (hp : c.plan.length < 2000000) (hk : okN c.plan) (hx : w_Wks c.workers < 2000000) (hy : w_Frss c.links < 2000000) : oc.call 15 [c.v false] = some (.int .i64 (clN c),[]) := by
  refine fun_s rfl cd15 rfl rfl rfl (by simp;rfl) (by simp;rfl) ?_
  have hl1 := w_Wks_len (l:=c.workers)
  have hl2 := w_Frss_len (l:=c.links)
  have hsq : c.workers.length ≤ 3 → IntKind.i64.wrap ((c.workers.length : Int) * c.workers.length) = ((c.workers.length * c.workers.length : Nat) : Int) := fun h => by have := sq_in h;rw [wrap_id (by push_cast at *;omega) (by push_cast at *;omega)];push_cast;rfl
  refine wa_ (wc_region (w_ (bx (h:=w_ (a_ (h:=wo_nil (e_ (h:=aft_normal (wa_ (wa_ (wc_region (w_ (f_ (h:=w_ (l_ (h:=w_ (ca (hc:=e_planS c.plan hp hk) (h:=?_))))))))))))))))))
  refine w_ (a_ (h:=wo_nil (e_ (h:=aft_normal (wa_ (wc_region (w_ (m_ (h:=w_ (bE (h:=wo_nil (e_ (h:=aft_normal (?_))))))))))))))
  refine c_ (h1:=?_) (h2:=?_)
  rotate_right 1
  focus
   intro c1
   first
   | exact dn c1
   | (have d1 := c1;try simp at d1
      refine wc_skip (?_)
      )
  rotate_right 1
  focus
   intro c1
   first
   | exact dn c1
   | (have d1 := c1;try simp at d1
      refine wa_ (wc_region (w_ (m_ (h:=w_ (a_ (h:=wo_nil (e_ (h:=aft_normal (wc_ret (?_))))))))))
      )
  all_goals first
  | refine aft_ret ?_
  | (refine aft_normal ?_
     refine wa_ (wc_region (w_ (f_ (h:=w_ (l_ (h:=w_ (le (h:=w_ (a_ (h:=wo_nil (e_ (h:=aft_normal (wa_ (wa_ (wc_region (w_ (m_ (h:=?_))))))))))))))))))
     refine w_ (b_ (h:=w_ (m_ (h:=?_))))
     refine gw_ (h1:=?_) (h2:=?_)
     rotate_right 1
     focus
      intro c2
      first
      | exact dn c2
      | (have d2 := c2;try simp at d2
         refine go_ (h:=go_ (h:=?_))
         )
     rotate_right 1
     focus
      intro c2
      first
      | exact dn c2
      | (have d2 := c2;try simp at d2
         refine g_ (h:=w_ (m_ (h:=g_ (h:=w_ (b_ (h:=?_))))))
         )
     all_goals
      refine w_ (pk (h:=w_ (m_ (h:=?_))))
      refine gw_ (h1:=?_) (h2:=?_)
      rotate_right 1
      focus
       intro c3
       first
       | exact dn c3
       | (have d3 := c3;try simp at d3
          refine go_ (h:=go_ (h:=go_ (h:=go_ (h:=go_ (h:=go_ (h:=go_ (h:=?_)))))))
          )
      rotate_right 1
      focus
       intro c3
       first
       | exact dn c3
       | (have d3 := c3;try simp at d3
          refine g_ (h:=w_ (f_ (h:=g_ (h:=w_ (l_ (h:=g_ (h:=w_ (le (h:=g_ (h:=w_ (m_ (h:=g_ (h:=w_ (m_ (h:=g_ (h:=w_ (b_ (h:=g_ (h:=w_ (bE (h:=?_)))))))))))))))))))))
          )
      all_goals
       refine w_ (pk (h:=wo_nil (e_ (h:=?_))))
     all_goals first
     | (refine aft_normal ?_
        refine c_ (h1:=?_) (h2:=?_)
        rotate_right 1
        focus
         intro c4
         first
         | exact dn c4
         | (have d4 := c4;try simp at d4
            have hm3 : 1 ≤ c.workers.length ∧ c.workers.length ≤ 3 := (by clear d2 d3 d4;simp only [wks_len,decide_eq_true_eq,decide_eq_false_iff_not,Bool.not_true,Bool.not_false] at c2 c3;omega);have hsq2 := hsq hm3.2;have hll : c.links.length = c.workers.length * c.workers.length := (by have q4 := c4;simp only [hsq2,frss_len,wks_len] at q4;simp at q4;exact_mod_cast q4)
            refine wc_skip (?_)
            )
        rotate_right 1
        focus
         intro c4
         first
         | exact dn c4
         | (have d4 := c4;try simp at d4
            have hbad : ¬ ((1 ≤ c.workers.length ∧ c.workers.length ≤ 3) ∧ c.links.length = c.workers.length * c.workers.length ∧ manyF c.links = false) := (by rintro ⟨ha,hb,hc⟩;have hsq2 := hsq ha.2;simp only [wks_len,frss_len,hsq2,hb,decide_eq_true_eq,decide_eq_false_iff_not,Bool.not_true,Bool.not_false] at *;first | omega | (simp at c3;omega) | (simp at c4;omega) | simp_all)
            refine wa_ (wc_region (w_ (a_ (h:=wo_nil (e_ (h:=aft_normal (wc_ret (?_))))))))
            )
        )
     all_goals first
     | refine aft_ret ?_
     | (refine aft_normal ?_
        refine wa_ (wa_ (wc_region (w_ (a_ (h:=wo_nil (e_ (h:=aft_normal (wc_block (?_)))))))))
        refine wc_loopI (l_clS1 c c.workers.length hy 0 (by omega) _ (by simp [normE])) ?_ ?_
        rotate_right 1
        focus
         intro c5
         first
         | exact dn c5
         | (have d5 := c5;try simp at d5
            skip
            )
        rotate_right 1
        focus
         intro c5
         first
         | exact dn c5
         | (have d5 := c5;try simp at d5
            skip
            )
        all_goals first | refine blk_ret ?_ | refine blk_exit ?_
        all_goals first
        | refine aft_ret ?_
        | (refine aft_normal ?_
           refine wa_ (wa_ (wc_region (w_ (a_ (h:=wo_nil (e_ (h:=aft_normal (wc_block (?_)))))))))
           refine wc_loopI (l_clS2 c hp hk d1 hx 0 (by omega) _ (by simp [normE])) ?_ ?_
           rotate_right 1
           focus
            intro c6
            first
            | exact dn c6
            | (have d6 := c6;try simp at d6
               skip
               )
           rotate_right 1
           focus
            intro c6
            first
            | exact dn c6
            | (have d6 := c6;try simp at d6
               skip
               )
           all_goals first | refine blk_ret ?_ | refine blk_exit ?_
           all_goals first
           | refine aft_ret ?_
           | (refine aft_normal ?_
              refine wa_ (wa_ (wc_region (w_ (a_ (h:=wo_nil (e_ (h:=aft_normal (wc_block (?_)))))))))
              refine wc_loopI (l_clS3 c hp hk d1 hy 0 (by omega) _ (by simp [normE])) ?_ ?_
              rotate_right 1
              focus
               intro c7
               first
               | exact dn c7
               | (have d7 := c7;try simp at d7
                  skip
                  )
              rotate_right 1
              focus
               intro c7
               first
               | exact dn c7
               | (have d7 := c7;try simp at d7
                  skip
                  )
              all_goals first | refine blk_ret ?_ | refine blk_exit ?_
              all_goals first
              | refine aft_ret ?_
              | (refine aft_normal ?_
                 refine wa_ (wc_region (w_ (a_ (h:=wo_nil (e_ (h:=aft_normal (wc_ret (?_))))))))
                 )
              )
           )
        )
     )
  all_goals (refine fin_ (hr:=(res_tmp rfl res_nil)) (h:=?_);(focus (clear hk hx hy;first | (simp [clN,clC,hbad, *];done) | (simp [clN, *];done) | (simp [clN, *];unfold clC;rw [if_neg (by rintro ⟨_,_,h⟩;rw [d5] at h;cases h)];done) | (simp [clN, *];unfold clC;rw [if_pos ⟨hm3,hll,d5⟩,if_pos d6];done) | (simp [clN, *];unfold clC;rw [if_pos ⟨hm3,hll,d5⟩,if_pos d6,d7];done) | (simp [clN, *];unfold clC;rw [if_pos ⟨hm3,hll,d5⟩,if_neg d6];done))))
theorem dFrss {n : Nat} {v : V} (h : hasT Tryz.prog (n + 7) 45 v) : ∃ l,v = .lst false 0 (frss false l) ∧ bg_Frss l := by
  obtain ⟨xs,e,h1,h2⟩ := dec_slice Tryz.underlying45 h
  obtain ⟨l,e2,h3⟩ := dec_list (f:=fun x => .lst false 0 (frs false x)) (p:=bg_Frs) (fun x hx => dFrs (h2 x hx))
  exact ⟨l,by rw [e,e2];rfl,by rw [e2] at h1;simpa using h1,h3⟩
theorem dCl {n : Nat} {v : V} (h : hasT Tryz.prog (n + 11) 47 v) : ∃ d : Cl,v = d.v false ∧ bg_Cl d := by
  obtain ⟨xs,e,x0,q0,rfl,t0,x1,q1,rfl,t1,x2,q2,rfl,t2,hq⟩ := dec_struct Tryz.underlying47 h
  obtain ⟨a0,rfl,b0⟩ := dNodes t0
  obtain ⟨a1,rfl,b1⟩ := dWks t1
  obtain ⟨a2,rfl,b2⟩ := dFrss t2
  simp only [List.map_nil,hasL] at hq
  subst hq
  exact ⟨⟨a0,a1,a2⟩,e,⟨b0,b1,b2⟩⟩
end Go.Proofs.YtgkbmiaimjpbfaaGreat.Ev
namespace Go.Proofs.YtgkbmiaimjpbfaaGreat.Ev
open Go
set_option maxRecDepth 100000
set_option linter.unusedSimpArgs false
set_option linter.unusedVariables false
set_option maxHeartbeats 2000000
def inS (l : List Wk) : Nat := wS (fun w => w.inbox.length) l
theorem inS_cut {l : List Wk} {i : Nat} {x : Wk} (h : l[i]? = some x) : inS (l.take (i + 1)) = inS (l.take i) + x.inbox.length := wS_cutL (f:=fun w : Wk => w.inbox.length) h
theorem inS_take {l : List Wk} {i : Nat} : inS (l.take i) ≤ inS l := wS_takeL
theorem inS_w {l : List Wk} : inS l ≤ w_Wks l := by
  unfold inS w_Wks
  induction l with
  | nil => simp
  | cons x r ih => have := w_Frs_len (l:=x.inbox);have h2 : x.inbox.length ≤ w_Wk x := (by unfold w_Wk;omega);simp only [wS_cons,List.length_cons];omega
theorem clN_zero {c : Cl} (h : clN c = 0) : 0 < c.links.length := by
  unfold clN at h
  split at h
  · unfold clC at h
    split at h
    · rename_i h1
      have := sq_pos h1.1.1
      have := h1.2.1
      omega
    · cases h
  · exact absurd h ‹_›
theorem e_sizeF (l : List Fr) (h : l.length < 2000000) : oc.call 93 [.lst false 0 (frs false l)] = some (.int .i64 l.length,[]) := by
  refine fun_s rfl cd93 rfl rfl rfl (by simp;rfl) (by simp;rfl) ?_
  refine wa_ (wc_region (w_ (a_ (h:=wo_nil (e_ (h:=aft_normal (wa_ (wc_region (w_ (m_ (h:=w_ (le (h:=w_ (a_ (h:=wo_nil (e_ (h:=aft_normal (?_))))))))))))))))))
  refine wc_ret (?_)
  all_goals (refine fin_ (hr:=(res_tmp rfl res_nil)) (h:=?_);(focus (first | (simp_all;done) | (simp_all <;> omega) | (simp_all <;> split <;> simp_all <;> omega))))
theorem e_onL (c : Cl) (h1 : c.links.length < 2000000) (h2 : lenS c.links < 2000000) (hne : 0 < c.links.length) : oc.call 92 [.vptr (c.v false)] = some (.int .i64 (lenS c.links : Nat),[]) := by
  refine fun_s rfl cd92 rfl rfl rfl (by simp;rfl) (by simp;rfl) ?_
  obtain ⟨L,hL⟩ : ∃ L,c.links.flatten = L := ⟨_,rfl⟩
  have hc := e_cat c.links h1 h2 hne
  rw [hL] at hc
  have hLl : L.length = lenS c.links := by rw [← hL];exact lenS_flat
  refine wa_ (wc_region (w_ (a_ (h:=wo_nil (e_ (h:=aft_normal (wa_ (wc_region (w_ (m_ (h:=w_ (nc (h:=w_ (f_ (h:=w_ (l_ (h:=w_ (ca (hc:=hc) (h:=?_)))))))))))))))))))
  refine w_ (ca (hc:=e_sizeF L (by omega)) (h:=w_ (a_ (h:=wo_nil (e_ (h:=aft_normal (wc_ret (?_))))))))
  all_goals (refine fin_ (hr:=(res_tmp rfl res_nil)) (h:=?_);(focus (simp [hLl])))
theorem l_inf (c : Cl) (n : Nat) (hx : w_Wks c.workers < 2000000) (hn : n < 2000000) : ∀ i : Nat,(i ≤ c.workers.length) → ∀ s,normE 1 (some [3,11,12,13]) s = ⟨[(3,.int .i64 ((n + inS (c.workers.take i) : Nat) : Int)),(11,.lst false 0 (wks false c.workers)),(12,.int .i64 c.workers.length),(13,.int .i64 i)],[],1⟩ →
    oc.loop 56 3 s = some (.exit 0,⟨[(3,.int .i64 ((n + inS c.workers : Nat) : Int))],[],1⟩) := by
  refine loop_ind (σ:=Nat) (fun i => c.workers.length - i) _ (fun i => ⟨[(3,.int .i64 ((n + inS (c.workers.take i) : Nat) : Int)),(11,.lst false 0 (wks false c.workers)),(12,.int .i64 c.workers.length),(13,.int .i64 i)],[],1⟩) _ ?_
  intro i hi ih s hs
  refine loop_s cd56 rfl rfl hs ?_
  have hlen := w_Wks_len (l:=c.workers)
  refine wa_ (wc_region (w_ (b_ (h:=wo_nil (e_ (h:=aft_normal (wa_ (?_))))))))
  refine c_ (h1:=?_) (h2:=?_)
  rotate_right 1
  focus
   intro c1
   first
   | exact dn c1
   | (have d1 := c1;try simp at d1
      refine wc_exit (?_)
      )
  rotate_right 1
  focus
   intro c1
   first
   | exact dn c1
   | (have d1 := c1;try simp at d1
      have hw := wrap_succ (i:=i) (by omega);obtain ⟨b,hb,e1,g1⟩ := wks_cut (t:=false) (l:=c.workers) (i:=i) (by omega);have hbw := w_Wks_mem (List.mem_of_getElem? hb);have hcut := inS_cut hb;have hle := inS_take (l:=c.workers) (i:=i + 1);have hin := inS_w (l:=c.workers);have hbi := w_Frs_len (l:=b.inbox);have hb2 : b.inbox.length < 2000000 := (by unfold w_Wk at hbw;omega);have hws : IntKind.i64.wrap (((n + inS (c.workers.take i) : Nat) : Int) + (b.inbox.length : Int)) = ((n + inS (c.workers.take (i + 1)) : Nat) : Int) := (wrap_id (by omega) (by omega)).trans (by omega)
      refine wc_skip (?_)
      )
  all_goals first
  | refine aft_exit ?_
  | (refine aft_normal ?_
     refine wa_ (wc_block (wa_ (wc_region (w_ (x_ (h:=w_ (l_ (h:=w_ (al (h:=w0 (s_ (h:=wo_nil (e_ (h:=aft_normal (wc_region (w_ (m_ (h:=?_))))))))))))))))))
     refine w_ (f_ (h:=w_ (l_ (h:=w_ (ca (hc:=e_sizeF b.inbox hb2) (h:=w_ (b_ (h:=w_ (a_ (h:=wo_nil (e_ (h:=blk_normal (aft_normal (wc_region (w_ (b_ (h:=w_ (m_ (h:=wo_nil (e_ (h:=?_)))))))))))))))))))))
     )
  all_goals first
  | ((refine (ih (i + 1) (by omega) ?_ _ ?_).trans ?_;(focus (first | omega | (simp;done)));(focus (simp only [hws];simp [normE,hw];done));(focus rfl)))
  | (apply end_leaf (ex:=(Ext.exit 0)) 1 (some [3]);(focus (simp [normE];rfl));(focus (rw [List.take_of_length_le (by omega)];simp)))
theorem e_infl2 (c : Cl) (h1 : c.links.length < 2000000) (h2 : lenS c.links < 2000000) (hne : 0 < c.links.length) (hx : w_Wks c.workers < 2000000) : oc.call 56 [.vptr (c.v false)] = some (.int .i64 ((lenS c.links + inS c.workers : Nat) : Int),[]) := by
  refine fun_s rfl cd56 rfl rfl rfl (by simp;rfl) (by simp;rfl) ?_
  refine wa_ (wc_region (w_ (a_ (h:=wo_nil (e_ (h:=aft_normal (wa_ (wc_region (w_ (m_ (h:=w_ (ca (hc:=e_onL c h1 h2 hne) (h:=w_ (a_ (h:=wo_nil (e_ (h:=aft_normal (?_))))))))))))))))))
  refine wa_ (wa_ (wc_region (w_ (m_ (h:=w_ (nc (h:=w_ (f_ (h:=w_ (l_ (h:=w_ (le (h:=w_ (m_ (h:=wo_nil (e_ (h:=aft_normal (wc_block (?_)))))))))))))))))))
  refine wc_loop (l_inf c (lenS c.links) hx h2 0 (by omega) _ (by simp [normE,inS])) ?_
  refine blk_exit (aft_normal (wa_ (wc_region (w_ (m_ (h:=w_ (a_ (h:=wo_nil (e_ (h:=aft_normal (wc_ret (?_))))))))))))
  all_goals (refine fin_ (hr:=(res_tmp rfl res_nil)) (h:=?_);(focus (first | (simp_all;done) | (simp_all <;> omega) | (simp_all <;> split <;> simp_all <;> omega))))
def inflN (c : Cl) : Int × Int := if clN c = 0 then (0,((lenS c.links + inS c.workers : Nat) : Int)) else (clN c,0)
theorem e_inflI (c : Cl) (hp : c.plan.length < 2000000) (hk : okN c.plan) (hx : w_Wks c.workers < 2000000) (hy : w_Frss c.links < 2000000) : oc.call 20 [c.v false] = some (.agg [.int .i64 (inflN c).1,.int .i64 (inflN c).2],[]) := by
  refine fun_s rfl cd20 rfl rfl rfl (by simp;rfl) (by simp;rfl) ?_
  have hl2 := w_Frss_len (l:=c.links)
  have hl3 := lenS_w (l:=c.links)
  refine wa_ (wc_region (w_ (bx (h:=w_ (al (h:=wo_nil (e_ (h:=aft_normal (wa_ (wa_ (wc_region (w_ (l_ (h:=w_ (ca (hc:=e_clI c hp hk hx hy) (h:=w_ (a_ (h:=?_))))))))))))))))))
  refine wo_nil (e_ (h:=aft_normal (wa_ (wc_region (w_ (m_ (h:=w_ (bE (h:=wo_nil (e_ (h:=aft_normal (?_))))))))))))
  refine c_ (h1:=?_) (h2:=?_)
  rotate_right 1
  focus
   intro c1
   first
   | exact dn c1
   | (have d1 := c1;try simp at d1
      refine wc_skip (?_)
      )
  rotate_right 1
  focus
   intro c1
   first
   | exact dn c1
   | (have d1 := c1;try simp at d1
      refine wa_ (wc_region (w_ (m_ (h:=w_ (bd (h:=w0 (s_ (h:=wo_nil (e_ (h:=aft_normal (wc_ret (?_))))))))))))
      )
  all_goals first
  | refine aft_ret ?_
  | (refine aft_normal ?_
     refine wa_ (wc_region (w_ (ca (hc:=e_infl2 c (by omega) (by omega) (clN_zero d1) hx) (h:=w_ (bd (h:=w0 (s_ (h:=wo_nil (e_ (h:=aft_normal (wc_ret (?_))))))))))))
     )
  all_goals (refine fin_ (hr:=(res_cell (tys_ok.zero _ _ rfl) rfl (by simp;rfl) (by rfl) res_nil)) (h:=?_);(focus (clear hk;simp [inflN, *])))
theorem l_infS1 (c : Cl) (hx : w_Frss c.links < 2000000) : ∀ i : Nat,(i ≤ c.links.length) → ∀ s,normE 1 (some [1,2,4,5]) s = ⟨[(1,.ptr 1 0 []),(2,.ptr 2 0 []),(4,.int .i64 (lenS (c.links.take i) : Nat)),(5,.int .i64 i)],[(1,⟨true,false,3,[c.v false],0⟩),(2,⟨true,false,2,[.agg [.int .i64 0,.int .i64 0]],0⟩)],3⟩ →
    oc.loop 19 6 s = some (.exit 0,⟨[(1,.ptr 1 0 []),(2,.ptr 2 0 []),(4,.int .i64 (lenS c.links : Nat))],[(1,⟨true,false,3,[c.v false],0⟩),(2,⟨true,false,2,[.agg [.int .i64 0,.int .i64 0]],0⟩)],3⟩) := by
  refine loop_ind (σ:=Nat) (fun i => c.links.length - i) _ (fun i => ⟨[(1,.ptr 1 0 []),(2,.ptr 2 0 []),(4,.int .i64 (lenS (c.links.take i) : Nat)),(5,.int .i64 i)],[(1,⟨true,false,3,[c.v false],0⟩),(2,⟨true,false,2,[.agg [.int .i64 0,.int .i64 0]],0⟩)],3⟩) _ ?_
  intro i hi ih s hs
  refine loop_s cd19 rfl rfl hs ?_
  have hlen := w_Frss_len (l:=c.links)
  have hl3 := lenS_w (l:=c.links)
  refine wa_ (wa_ (wc_region (w_ (m_ (h:=w_ (f_ (h:=w_ (l_ (h:=w_ (le (h:=w_ (b_ (h:=wo_nil (e_ (h:=aft_normal (?_))))))))))))))))
  refine c_ (h1:=?_) (h2:=?_)
  rotate_right 1
  focus
   intro c1
   first
   | exact dn c1
   | (have d1 := c1;try simp at d1
      refine wc_exit (?_)
      )
  rotate_right 1
  focus
   intro c1
   first
   | exact dn c1
   | (have d1 := c1;try simp at d1
      have hw := wrap_succ (i:=i) (by omega);obtain ⟨b,hb,e1,g1⟩ := frss_cut (t:=false) (l:=c.links) (i:=i) (by omega);have hcut := lenS_cut hb;have hle := lenS_take (l:=c.links) (i:=i + 1);have hws : IntKind.i64.wrap ((lenS (c.links.take i) : Nat) + (b.length : Int)) = (lenS (c.links.take (i + 1)) : Nat) := (wrap_id (by omega) (by omega)).trans (by omega)
      refine wc_skip (?_)
      )
  all_goals first
  | refine aft_exit ?_
  | (refine aft_normal ?_
     refine wa_ (wc_block (wc_region (w_ (m_ (h:=w_ (f_ (h:=w_ (l_ (h:=w_ (m_ (h:=w_ (x_ (h:=w_ (l_ (h:=w_ (le (h:=w_ (b_ (h:=w_ (a_ (h:=?_)))))))))))))))))))))
     refine wo_nil (e_ (h:=blk_normal (aft_normal (wc_region (w_ (m_ (h:=w_ (b_ (h:=w_ (a_ (h:=wo_nil (e_ (h:=?_)))))))))))))
     )
  all_goals first
  | (refine (ih (i + 1) (by omega) ?_ _ ?_).trans ?_;(focus (first | omega | (simp;done) | (simp;omega)));(focus (simp [normE,hw,hws];done));(focus (rfl)))
  | (apply end_leaf (ex:=(Ext.exit 0)) 1 (some [1,2,4]);(focus (simp [normE];rfl));(focus (rw [List.take_of_length_le (by omega)])))
theorem l_infS2 (c : Cl) (n : Nat) (hx : w_Wks c.workers < 2000000) (hn : n < 2000000) : ∀ i : Nat,(i ≤ c.workers.length) → ∀ s,normE 1 (some [1,2,4,6]) s = ⟨[(1,.ptr 1 0 []),(2,.ptr 2 0 []),(4,.int .i64 ((n + inS (c.workers.take i) : Nat) : Int)),(6,.int .i64 i)],[(1,⟨true,false,3,[c.v false],0⟩),(2,⟨true,false,2,[.agg [.int .i64 0,.int .i64 0]],0⟩)],3⟩ →
    oc.loop 19 10 s = some (.exit 2,⟨[(2,.ptr 1 0 []),(4,.int .i64 ((n + inS c.workers : Nat) : Int))],[(1,⟨true,false,2,[.agg [.int .i64 0,.int .i64 0]],0⟩)],2⟩) := by
  refine loop_ind (σ:=Nat) (fun i => c.workers.length - i) _ (fun i => ⟨[(1,.ptr 1 0 []),(2,.ptr 2 0 []),(4,.int .i64 ((n + inS (c.workers.take i) : Nat) : Int)),(6,.int .i64 i)],[(1,⟨true,false,3,[c.v false],0⟩),(2,⟨true,false,2,[.agg [.int .i64 0,.int .i64 0]],0⟩)],3⟩) _ ?_
  intro i hi ih s hs
  refine loop_s cd19 rfl rfl hs ?_
  have hlen := w_Wks_len (l:=c.workers)
  refine wa_ (wa_ (wc_region (w_ (m_ (h:=w_ (f_ (h:=w_ (l_ (h:=w_ (le (h:=w_ (b_ (h:=wo_nil (e_ (h:=aft_normal (?_))))))))))))))))
  refine c_ (h1:=?_) (h2:=?_)
  rotate_right 1
  focus
   intro c1
   first
   | exact dn c1
   | (have d1 := c1;try simp at d1
      refine wc_exit (?_)
      )
  rotate_right 1
  focus
   intro c1
   first
   | exact dn c1
   | (have d1 := c1;try simp at d1
      have hw := wrap_succ (i:=i) (by omega);obtain ⟨b,hb,e1,g1⟩ := wks_cut (t:=false) (l:=c.workers) (i:=i) (by omega);have hbw := w_Wks_mem (List.mem_of_getElem? hb);have hcut := inS_cut hb;have hle := inS_take (l:=c.workers) (i:=i + 1);have hin := inS_w (l:=c.workers);have hbi := w_Frs_len (l:=b.inbox);have hb2 : b.inbox.length < 2000000 := (by unfold w_Wk at hbw;omega);have hws : IntKind.i64.wrap (((n + inS (c.workers.take i) : Nat) : Int) + (b.inbox.length : Int)) = ((n + inS (c.workers.take (i + 1)) : Nat) : Int) := (wrap_id (by omega) (by omega)).trans (by omega)
      refine wc_skip (?_)
      )
  all_goals first
  | refine aft_exit ?_
  | (refine aft_normal ?_
     refine wa_ (wc_block (wc_region (w_ (m_ (h:=w_ (f_ (h:=w_ (l_ (h:=w_ (m_ (h:=w_ (x_ (h:=w_ (f_ (h:=w_ (l_ (h:=w_ (le (h:=w_ (b_ (h:=?_)))))))))))))))))))))
     refine w_ (a_ (h:=wo_nil (e_ (h:=blk_normal (aft_normal (wc_region (w_ (m_ (h:=w_ (b_ (h:=w_ (a_ (h:=wo_nil (e_ (h:=?_)))))))))))))))
     )
  all_goals first
  | ((refine (ih (i + 1) (by omega) ?_ _ ?_).trans ?_;(focus (first | omega | (simp;done)));(focus (simp only [frs_len,hws];simp [normE,hw];done));(focus rfl)))
  | (apply end_leaf (ex:=(Ext.exit 2)) 1 (some [2,4]);(focus (simp [normE];rfl));(focus (rw [List.take_of_length_le (by omega)];simp)))
theorem e_inflS (c : Cl) (hp : c.plan.length < 2000000) (hk : okN c.plan) (hx : w_Wks c.workers < 2000000) (hy : w_Frss c.links < 2000000) : oc.call 19 [c.v false] = some (.agg [.int .i64 (inflN c).1,.int .i64 (inflN c).2],[]) := by
  refine fun_s rfl cd19 rfl rfl rfl (by simp;rfl) (by simp;rfl) ?_
  have hl2 := w_Frss_len (l:=c.links)
  have hl3 := lenS_w (l:=c.links)
  refine wa_ (wc_region (w_ (bx (h:=w_ (al (h:=wo_nil (e_ (h:=aft_normal (wa_ (wa_ (wc_region (w_ (l_ (h:=w_ (ca (hc:=e_clS c hp hk hx hy) (h:=w_ (a_ (h:=?_))))))))))))))))))
  refine wo_nil (e_ (h:=aft_normal (wa_ (wc_region (w_ (m_ (h:=w_ (bE (h:=wo_nil (e_ (h:=aft_normal (?_))))))))))))
  refine c_ (h1:=?_) (h2:=?_)
  rotate_right 1
  focus
   intro c1
   first
   | exact dn c1
   | (have d1 := c1;try simp at d1
      refine wc_skip (?_)
      )
  rotate_right 1
  focus
   intro c1
   first
   | exact dn c1
   | (have d1 := c1;try simp at d1
      refine wa_ (wc_region (w_ (m_ (h:=w_ (bd (h:=w0 (s_ (h:=wo_nil (e_ (h:=aft_normal (wc_ret (?_))))))))))))
      )
  all_goals first
  | refine aft_ret ?_
  | (refine aft_normal ?_
     refine wa_ (wc_region (w_ (a_ (h:=wo_nil (e_ (h:=aft_normal (wa_ (wa_ (wc_region (w_ (a_ (h:=wo_nil (e_ (h:=aft_normal (wc_block (?_))))))))))))))))
     refine wc_loop (l_infS1 c hy 0 (by omega) _ (by simp [normE,lenS])) ?_
     refine blk_exit (aft_normal (wa_ (wa_ (wc_region (w_ (a_ (h:=wo_nil (e_ (h:=aft_normal (wc_block (?_)))))))))))
     refine wc_loop (l_infS2 c (lenS c.links) hx (by omega) 0 (by omega) _ (by simp [normE,inS])) ?_
     refine blk_exit (aft_normal (wa_ (wc_region (w_ (m_ (h:=w_ (bd (h:=w0 (s_ (h:=wo_nil (e_ (h:=aft_normal (wc_ret (?_))))))))))))))
     )
  all_goals (refine fin_ (hr:=(res_cell (tys_ok.zero _ _ rfl) rfl (by simp;rfl) (by rfl) res_nil)) (h:=?_);(focus (clear hk;simp [inflN, *])))
theorem law_infl (c : Cl) (hb : bg_Cl c) : oc.call 5 [c.v false] = some (.bool true,[]) := by
  refine fun_s rfl cd5 rfl rfl rfl (by simp;rfl) (by simp;rfl) ?_
  refine wa_ (wc_region (w_ (bx (h:=w_ (a_ (h:=wo_nil (e_ (h:=aft_normal (wa_ (wc_region (w_ (a_ (h:=wo_nil (e_ (h:=aft_normal (wa_ (?_)))))))))))))))))
  refine wc_region (w_ (l_ (h:=w_ (m_ (h:=w_ (ca (hc:=sz_Cl c 1048576 hb (by omega) (by omega)) (h:=w_ (a_ (h:=wo_nil (e_ (h:=aft_normal (wa_ (wa_ (wc_region (w_ (m_ (h:=w_ (b_ (h:=?_)))))))))))))))))))
  refine wo_nil (e_ (h:=aft_normal (?_)))
  refine c_ (h1:=?_) (h2:=?_)
  rotate_right 1
  focus
   intro c1
   first
   | exact dn c1
   | (have d1 := c1;try simp at d1
      obtain ⟨h1,h2,h3,h4⟩ := szC_ok (x:=c) (a:=1048576) (by omega) (by omega)
      refine wc_skip (?_)
      )
  rotate_right 1
  focus
   intro c1
   first
   | exact dn c1
   | (have d1 := c1;try simp at d1
      refine wa_ (wc_region (w_ (a_ (h:=wo_nil (e_ (h:=aft_normal (wc_ret (?_))))))))
      )
  all_goals first
  | refine aft_ret ?_
  | (refine aft_normal ?_
     refine wa_ (wc_region (w_ (l_ (h:=w_ (ca (hc:=to_Cl c h1 h2 h3 h4) (h:=w_ (ca (hc:=e_inflS c h1 h2 h3 h4) (h:=w_ (al (h:=w0 (s_ (h:=wo_nil (e_ (h:=aft_normal (wa_ (wc_region (w_ (l_ (h:=?_)))))))))))))))))))
     refine w_ (ca (hc:=to_Cl c h1 h2 h3 h4) (h:=w_ (al (h:=w0 (s_ (h:=wo_nil (e_ (h:=aft_normal (wa_ (wc_region (w_ (l_ (h:=w_ (ca (hc:=e_inflI c h1 h2 h3 h4) (h:=w_ (al (h:=w0 (s_ (h:=wo_nil (e_ (h:=?_)))))))))))))))))))))
     refine aft_normal (wa_ (wa_ (wc_region (w_ (l_ (h:=w_ (l_ (h:=w_ (ca (hc:=e_eqIR _ _ _ _) (h:=w_ (u_ (h:=wo_nil (e_ (h:=aft_normal (?_)))))))))))))))
     refine c_ (h1:=?_) (h2:=?_)
     rotate_right 1
     focus
      intro c2
      first
      | exact dn c2
      | (have d2 := c2;try simp at d2
         refine wc_skip (?_)
         )
     rotate_right 1
     focus
      intro c2
      first
      | exact dn c2
      | (have d2 := c2;try simp at d2
         refine wa_ (wc_region (w_ (a_ (h:=wo_nil (e_ (h:=aft_normal (wc_ret (?_))))))))
         )
     all_goals first
     | refine aft_ret ?_
     | (refine aft_normal ?_
        refine wa_ (wa_ (wc_draw (y_ (l_ (h:=ax_ (h:=y_ (l_ (h:=ax_ (h:=y_ (ca (hc:=to_Cl c h1 h2 h3 h4) (h:=ax_ (h:=y_ (ca (hc:=eq_Cl c h1 h2 h3 h4) (h:=ax_ (h:=y_ (u_ (h:=ax_ (h:=wo_nil (ed (h:=aft_normal (?_)))))))))))))))))))))
        refine c_ (h1:=?_) (h2:=?_)
        rotate_right 1
        focus
         intro c3
         first
         | exact dn c3
         | (have d3 := c3;try simp at d3
            refine wc_skip (?_)
            )
        rotate_right 1
        focus
         intro c3
         first
         | exact dn c3
         | (have d3 := c3;try simp at d3
            refine wa_ (wc_region (w_ (a_ (h:=wo_nil (e_ (h:=aft_normal (wc_ret (?_))))))))
            )
        all_goals first
        | refine aft_ret ?_
        | (refine aft_normal ?_
           refine wa_ (wc_region (w_ (a_ (h:=wo_nil (e_ (h:=aft_normal (wc_ret (?_))))))))
           )
        )
     )
  all_goals (refine fin_ (hr:=(res_tmp rfl res_nil)) (h:=?_);(focus (simp)))
end Go.Proofs.YtgkbmiaimjpbfaaGreat.Ev
