/- Part 5 of the proof that the law named in the last part returns true at every argument: an evaluator of the program, shown sound, and its runs. No further conditions. -/
import Derived.Test.YtgkbmiaimjpbfaaML2804
namespace Go.Proofs.Ytgkbmiaimjpbfaa.Ev
open Go
set_option maxRecDepth 100000
set_option linter.unusedSimpArgs false
set_option linter.unusedVariables false
set_option maxHeartbeats 2000000
theorem blk_t_E {g : Nat → List Er → List Er} {w n f a : Nat} {l : List Er} (h : a + w ≤ n) (hf : n ≤ f + a) (hw : 1 ≤ w) : blk g w n f a l = blk g w n (f - 1) (a + w) (g a l) := by
  obtain ⟨k,rfl⟩ : ∃ k,f = k + 1 := ⟨f - 1,by omega⟩
  conv => lhs;unfold blk
  rw [if_pos h];rfl
theorem blk_f_E {g : Nat → List Er → List Er} {w n f a : Nat} {l : List Er} (h : ¬ a + w ≤ n) : blk g w n f a l = (a,l) := by
  cases f with
  | zero => rfl
  | succ k => unfold blk;rw [if_neg h]
theorem blk_len_E {g : Nat → List Er → List Er} {w n : Nat} (hw : 1 ≤ w) (hg : ∀ a l,a + w ≤ n → l.length = n → (g a l).length = n) : ∀ (f a : Nat) (l : List Er),n ≤ f + a → a ≤ n → l.length = n → (blk g w n f a l).1 ≤ n ∧ n < (blk g w n f a l).1 + w ∧ (blk g w n f a l).2.length = n
  | 0,a,l,h1,h2,h3 => ⟨h2,by show n < a + w;omega,h3⟩
  | f + 1,a,l,h1,h2,h3 => by
    unfold blk
    split
    · rename_i h
      exact blk_len_E hw hg f (a + w) _ (by omega) h (hg a l h h3)
    · rename_i h
      exact ⟨h2,by show n < a + w;omega,h3⟩
abbrev gI_E : Nat → List Er → List Er := fun a l => ins ltE a (a + 20) l
abbrev gM_E (w : Nat) : Nat → List Er → List Er := fun a l => symM ltE (2 * w) a (a + w) (a + 2 * w) l
theorem l_st2_E (N : Nat) (hN : N < 2000000) : ∀ x : Nat × Nat × (List Er),(N ≤ x.1 + x.2.1 ∧ x.2.1 ≤ N ∧ x.2.2.length = N) → ∀ s,normE 3 (some [0,1,2,6,7,8]) s = ⟨[(0,.ref 0 0 N),(1,.int .i64 N),(2,.clo 176 []),(6,.int .i64 20),(7,.int .i64 x.2.1),(8,.int .i64 (x.2.1 + 20 : Nat))],[(0,⟨false,true,2,ers x.2.2,0⟩)],3⟩ →
 oc.loop 225 2 s = some (.exit 0,⟨[(0,.ref 0 0 N),(1,.int .i64 N),(2,.clo 176 []),(6,.int .i64 20),(7,.int .i64 ((blk gI_E 20 N x.1 x.2.1 x.2.2).1 : Nat))],[(0,⟨false,true,2,ers (blk gI_E 20 N x.1 x.2.1 x.2.2).2,0⟩)],3⟩) := by
 refine loop_ind (σ:=Nat × Nat × (List Er)) (fun x => x.1) _ (fun x => ⟨[(0,.ref 0 0 N),(1,.int .i64 N),(2,.clo 176 []),(6,.int .i64 20),(7,.int .i64 x.2.1),(8,.int .i64 (x.2.1 + 20 : Nat))],[(0,⟨false,true,2,ers x.2.2,0⟩)],3⟩) _ ?_
 rintro ⟨f,a,r⟩ hi ih s hs
 simp only at hi
 refine loop_s cd225 rfl rfl hs ?_
 obtain ⟨hi1,hi2,hi3⟩ := hi
 refine wa_ (wa_ (wc_region (w_ (m_ (h:=w_ (m_ (h:=w_ (b_ (h:=wo_nil (e_ (h:=aft_normal (?_))))))))))))
 refine c_ (h1:=?_) (h2:=?_)
 rotate_right 1
 focus
  intro c1
  first
  | exact dn c1
  | (
   have d1 := c1;try simp at d1
   have hab : ¬ a + 20 ≤ N := (by simp at c1;omega)
   refine wc_exit (?_)
   )
 rotate_right 1
 focus
  intro c1
  first
  | exact dn c1
  | (
   have d1 := c1;try simp at d1
   have hab : a + 20 ≤ N := (by simp at c1;omega);have hil := (ins_ok O_ltE (a:=a) (b:=a + 20) (l:=r) (by omega)).1.len
   refine wc_skip (?_)
   )
 all_goals first
 | refine aft_exit ?_
 | (
  refine aft_normal ?_
  refine wc_block (wa_ (wc_region (w_ (m_ (h:=w_ (m_ (h:=w_ (m_ (h:=w_ (m_ (h:=w_ (?_))))))))))))
  refine cI (hc:=e_insC_E a (a + 20) r (by omega) (by omega) (by omega)) (hal:=ers_alk hil.symm) (h:=?_)
  refine wo_nil (e_ (h:=aft_normal (wa_ (wc_region (w_ (m_ (h:=w_ (a_ (h:=wo_nil (e_ (h:=aft_normal (wc_region (w_ (m_ (h:=w_ (m_ (h:=w_ (?_))))))))))))))))))
  refine b_ (hv:=iv_add (c:=a + 20 + 20) (by simp) (by omega)) (h:=?_)
  refine w_ (a_ (h:=wo_nil (e_ (h:=blk_normal (?_)))))
  )
 all_goals first
 | (refine (ih ((f - 1,a + 20,ins ltE a (a + 20) r)) (⟨by simp only;omega,by simp only;omega,by simp only;omega⟩) ?_ _ ?_).trans ?_;(focus (first | omega | (simp;done) | (simp;omega)));(focus (simp [normE,tnat];done));(focus (rw [blk_t_E (f:=f) (a:=a) (l:=r) hab hi1 (by omega)])))
 | (apply end_leaf (ex:=(Ext.exit 0)) 3 (some [0,1,2,6,7]);(focus (simp [normE];rfl));(focus (rw [blk_f_E hab])))
theorem l_st9_E (w N : Nat) (hN : N < 2000000) (hw : 1 ≤ w) (hw2 : w < 4000100) : ∀ x : Nat × Nat × (List Er),(N ≤ x.1 + x.2.1 ∧ x.2.1 ≤ N ∧ x.2.2.length = N) → ∀ s,normE 3 (some [0,1,2,6,7,8]) s = ⟨[(0,.ref 0 0 N),(1,.int .i64 N),(2,.clo 176 []),(6,.int .i64 w),(7,.int .i64 x.2.1),(8,.int .i64 (x.2.1 + 2 * w : Nat))],[(0,⟨false,true,2,ers x.2.2,0⟩)],3⟩ →
 oc.loop 225 9 s = some (.exit 4,⟨[(0,.ref 0 0 N),(1,.int .i64 N),(2,.clo 176 []),(6,.int .i64 w),(7,.int .i64 ((blk (gM_E w) (2 * w) N x.1 x.2.1 x.2.2).1 : Nat))],[(0,⟨false,true,2,ers (blk (gM_E w) (2 * w) N x.1 x.2.1 x.2.2).2,0⟩)],3⟩) := by
 refine loop_ind (σ:=Nat × Nat × (List Er)) (fun x => x.1) _ (fun x => ⟨[(0,.ref 0 0 N),(1,.int .i64 N),(2,.clo 176 []),(6,.int .i64 w),(7,.int .i64 x.2.1),(8,.int .i64 (x.2.1 + 2 * w : Nat))],[(0,⟨false,true,2,ers x.2.2,0⟩)],3⟩) _ ?_
 rintro ⟨f,a,r⟩ hi ih s hs
 simp only at hi
 refine loop_s cd225 rfl rfl hs ?_
 obtain ⟨hi1,hi2,hi3⟩ := hi
 refine wa_ (wa_ (wc_region (w_ (m_ (h:=w_ (m_ (h:=w_ (b_ (h:=wo_nil (e_ (h:=aft_normal (?_))))))))))))
 refine c_ (h1:=?_) (h2:=?_)
 rotate_right 1
 focus
  intro c1
  first
  | exact dn c1
  | (
   have d1 := c1;try simp at d1
   have hab : ¬ a + 2 * w ≤ N := (by simp at c1;omega)
   refine wc_exit (?_)
   )
 rotate_right 1
 focus
  intro c1
  first
  | exact dn c1
  | (
   have d1 := c1;try simp at d1
   have hab : a + 2 * w ≤ N := (by simp at c1;omega);have hil := symM_len_E (lt:=ltE) (2 * w) a (a + w) (a + 2 * w) r (by omega) (by omega) (by omega)
   refine wc_skip (?_)
   )
 all_goals first
 | refine aft_exit ?_
 | (
  refine aft_normal ?_
  refine wc_block (wa_ (wc_region (w_ (m_ (h:=w_ (m_ (h:=w_ (m_ (h:=w_ (m_ (h:=w_ (?_))))))))))))
  refine b_ (hv:=iv_add (c:=a + w) (by simp) (by omega)) (h:=?_)
  refine w_ (m_ (h:=w_ (m_ (h:=w_ (?_)))))
  refine cI (hc:=e_symM_E (2 * w) a (a + w) (a + 2 * w) r (by omega) (by omega) (by omega) (by omega) (by omega)) (hal:=ers_alk hil.symm) (h:=?_)
  refine wo_nil (e_ (h:=aft_normal (wa_ (wc_region (w_ (m_ (h:=w_ (a_ (h:=wo_nil (e_ (h:=aft_normal (wc_region (w_ (m_ (h:=w_ (m_ (h:=w_ (?_))))))))))))))))))
  refine b_ (hv:=iv_mul (c:=2 * w) (by simp) (by omega)) (h:=?_)
  refine w_ (?_)
  refine b_ (hv:=iv_add (c:=a + 2 * w + 2 * w) (by simp) (by omega)) (h:=?_)
  refine w_ (a_ (h:=wo_nil (e_ (h:=blk_normal (?_)))))
  )
 all_goals first
 | (refine (ih ((f - 1,a + 2 * w,symM ltE (2 * w) a (a + w) (a + 2 * w) r)) (⟨by simp only;omega,by simp only;omega,by simp only;omega⟩) ?_ _ ?_).trans ?_;(focus (first | omega | (simp;done) | (simp;omega)));(focus (simp [normE,tnat];done));(focus (rw [blk_t_E (f:=f) (a:=a) (l:=r) hab hi1 (by omega)])))
 | (apply end_leaf (ex:=(Ext.exit 4)) 3 (some [0,1,2,6,7]);(focus (simp [normE];rfl));(focus (rw [blk_f_E hab])))
theorem stb2_t_E {n f w : Nat} {l : List Er} (h : w < n) (hf : n ≤ f + w) : stb2 ltE n f w l = stb2 ltE n (f - 1) (2 * w) (mrg ltE w n l) := by
  obtain ⟨k,rfl⟩ : ∃ k,f = k + 1 := ⟨f - 1,by omega⟩
  conv => lhs;unfold stb2
  rw [if_pos h];rfl
theorem stb2_f_E {n f w : Nat} {l : List Er} (h : ¬ w < n) : stb2 ltE n f w l = l := by
  cases f with
  | zero => rfl
  | succ k => unfold stb2;rw [if_neg h]
theorem mrg_a_E {w n : Nat} {l : List Er} (h : (blk (gM_E w) (2 * w) n n 0 l).1 + w < n) : mrg ltE w n l = symM ltE (2 * w) (blk (gM_E w) (2 * w) n n 0 l).1 ((blk (gM_E w) (2 * w) n n 0 l).1 + w) n (blk (gM_E w) (2 * w) n n 0 l).2 := by
  unfold mrg;rw [if_pos h]
theorem mrg_b_E {w n : Nat} {l : List Er} (h : ¬ (blk (gM_E w) (2 * w) n n 0 l).1 + w < n) : mrg ltE w n l = (blk (gM_E w) (2 * w) n n 0 l).2 := by
  unfold mrg;rw [if_neg h]
theorem l_st7_E (N : Nat) (hN : N < 2000000) : ∀ x : Nat × Nat × (List Er),(N ≤ x.1 + x.2.1 ∧ 1 ≤ x.2.1 ∧ x.2.1 < 4000100 ∧ x.2.2.length = N) → ∀ s,normE 3 (some [0,1,2,6]) s = ⟨[(0,.ref 0 0 N),(1,.int .i64 N),(2,.clo 176 []),(6,.int .i64 x.2.1)],[(0,⟨false,true,2,ers x.2.2,0⟩)],3⟩ →
 oc.loop 225 7 s = some (.exit 2,⟨[],[(0,⟨false,true,2,ers (stb2 ltE N x.1 x.2.1 x.2.2),0⟩)],3⟩) := by
 refine loop_ind (σ:=Nat × Nat × (List Er)) (fun x => x.1) _ (fun x => ⟨[(0,.ref 0 0 N),(1,.int .i64 N),(2,.clo 176 []),(6,.int .i64 x.2.1)],[(0,⟨false,true,2,ers x.2.2,0⟩)],3⟩) _ ?_
 rintro ⟨f,w,r⟩ hi ih s hs
 simp only at hi
 refine loop_s cd225 rfl rfl hs ?_
 obtain ⟨hi1,hi2,hi2',hi3⟩ := hi
 refine wa_ (wa_ (wc_region (w_ (m_ (h:=w_ (m_ (h:=w_ (b_ (h:=wo_nil (e_ (h:=aft_normal (?_))))))))))))
 refine c_ (h1:=?_) (h2:=?_)
 rotate_right 1
 focus
  intro c1
  first
  | exact dn c1
  | (
   have d1 := c1;try simp at d1
   have hab : ¬ w < N := (by simp at c1;omega)
   refine wc_exit (?_)
   )
 rotate_right 1
 focus
  intro c1
  first
  | exact dn c1
  | (
   have d1 := c1;try simp at d1
   have hab : w < N := (by simp at c1;omega);obtain ⟨b1,b2,b3⟩ := blk_len_E (g:=gM_E w) (w:=2 * w) (n:=N) (by omega) (fun a l ha hl => (symM_len_E (lt:=ltE) (2 * w) a (a + w) (a + 2 * w) l (by omega) (by omega) (by omega)).trans hl) N 0 r (by omega) (by omega) hi3
   refine wc_skip (?_)
   )
 all_goals first
 | refine aft_exit ?_
 | (
  refine aft_normal ?_
  refine wc_block (wa_ (wc_region (w_ (m_ (h:=w_ (?_))))))
  refine b_ (hv:=iv_mul (c:=2 * w) (by simp) (by omega)) (h:=?_)
  refine w_ (a_ (h:=w_ (a_ (h:=wo_nil (e_ (h:=aft_normal (wa_ (wc_block (?_)))))))))
  refine wc_loop (l_st9_E w N hN hi2 hi2' (N,0,r) ⟨by simp,by simp,hi3⟩ _ (by simp [normE])) ?_
  refine blk_exit (aft_normal (wa_ (wa_ (wc_region (w_ (m_ (h:=w_ (m_ (h:=w_ (?_))))))))))
  refine b_ (hv:=iv_add (c:=(blk (gM_E w) (2 * w) N N 0 r).1 + w) (by simp) (by omega)) (h:=?_)
  refine w_ (a_ (h:=wo_nil (e_ (h:=aft_normal (wa_ (wc_region (w_ (m_ (h:=w_ (m_ (h:=w_ (b_ (h:=wo_nil (e_ (h:=aft_normal (?_))))))))))))))))
  refine c_ (h1:=?_) (h2:=?_)
  rotate_right 1
  focus
   intro c2
   first
   | exact dn c2
   | (
    have d2 := c2;try simp at d2
    have hcw : ¬ (blk (gM_E w) (2 * w) N N 0 r).1 + w < N := (by simp at c2;omega);have hml : (mrg ltE w N r).length = N := (by rw [mrg_b_E hcw];omega)
    refine wc_skip (?_)
    )
  rotate_right 1
  focus
   intro c2
   first
   | exact dn c2
   | (
    have d2 := c2;try simp at d2
    have hcw : (blk (gM_E w) (2 * w) N N 0 r).1 + w < N := (by simp at c2;omega);have hil := symM_len_E (lt:=ltE) (2 * w) (blk (gM_E w) (2 * w) N N 0 r).1 ((blk (gM_E w) (2 * w) N N 0 r).1 + w) N (blk (gM_E w) (2 * w) N N 0 r).2 (by omega) (by omega) (by omega);have hml : (mrg ltE w N r).length = N := (by rw [mrg_a_E hcw];omega)
    refine wc_region (w_ (m_ (h:=w_ (m_ (h:=w_ (m_ (h:=w_ (m_ (h:=w_ (m_ (h:=w_ (?_))))))))))))
    refine cI (hc:=e_symM_E (2 * w) (blk (gM_E w) (2 * w) N N 0 r).1 ((blk (gM_E w) (2 * w) N N 0 r).1 + w) N (blk (gM_E w) (2 * w) N N 0 r).2 (by omega) (by omega) (by omega) (by omega) (by omega)) (hal:=ers_alk hil.symm) (h:=?_)
    refine wo_nil (e_ (h:=?_))
    )
  all_goals first
  | (
   refine aft_normal ?_
   refine wc_region (w_ (m_ (h:=w_ (?_))))
   refine b_ (hv:=iv_mul (c:=2 * w) (by push_cast;omega) (by omega)) (h:=?_)
   refine w_ (a_ (h:=wo_nil (e_ (h:=?_))))
   )
  all_goals refine blk_normal ?_
  )
 all_goals first
 | (refine (ih ((f - 1,2 * w,mrg ltE w N r)) (⟨by simp only;omega,by simp only;omega,by simp only;omega,by simp only;omega⟩) ?_ _ ?_).trans ?_;(focus (first | omega | (simp;done) | (simp;omega)));(focus (simp [normE,tnat,mrg_a_E hcw];done));(focus (rw [stb2_t_E (f:=f) (w:=w) (l:=r) hab hi1])))
 | (refine (ih ((f - 1,2 * w,mrg ltE w N r)) (⟨by simp only;omega,by simp only;omega,by simp only;omega,by simp only;omega⟩) ?_ _ ?_).trans ?_;(focus (first | omega | (simp;done) | (simp;omega)));(focus (simp [normE,tnat,mrg_b_E hcw];done));(focus (rw [stb2_t_E (f:=f) (w:=w) (l:=r) hab hi1])))
 | (apply end_leaf (ex:=(Ext.exit 2)) 3 (some []);(focus (simp [normE];rfl));(focus (rw [stb2_f_E hab])))
theorem e_stbl_E (l : List Er) (hN : l.length < 2000000) : oc.call 225 [.iol 2 (ers l),.int .i64 l.length,.clo 176 []] = some (.tup [],[.lst true 2 (ers (stb ltE l))]) := by
 refine fun_s rfl cd225 rfl rfl rfl (by simp;rfl) (by simp;rfl) ?_
 obtain ⟨b1,b2,b3⟩ := blk_len_E (g:=gI_E) (w:=20) (n:=l.length) (by omega) (fun a r ha hl => (ins_ok O_ltE (a:=a) (b:=a + 20) (l:=r) (by omega)).1.len.trans hl) l.length 0 l (by omega) (by omega) rfl
 have hil := (ins_ok O_ltE (a:=(blk gI_E 20 l.length l.length 0 l).1) (b:=l.length) (l:=(blk gI_E 20 l.length l.length 0 l).2) (by omega)).1.len
 refine wa_ (wc_region (w_ (a_ (h:=wo_nil (e_ (h:=aft_normal (wa_ (wc_region (w_ (m_ (h:=w_ (a_ (h:=w_ (a_ (h:=wo_nil (e_ (h:=aft_normal (?_))))))))))))))))))
 refine wa_ (wc_block (?_))
 refine wc_loop (l_st2_E l.length hN (l.length,0,l) ⟨by simp,by simp,rfl⟩ _ (by simp [normE])) ?_
 refine blk_exit (aft_normal (wa_ (wc_region (w_ (m_ (h:=w_ (m_ (h:=w_ (m_ (h:=w_ (m_ (h:=w_ (?_)))))))))))))
 refine cI (hc:=e_insC_E (blk gI_E 20 l.length l.length 0 l).1 l.length (blk gI_E 20 l.length l.length 0 l).2 (by omega) (by omega) (by omega)) (hal:=ers_alk hil.symm) (h:=?_)
 refine wo_nil (e_ (h:=aft_normal (wc_block (?_))))
 refine wc_loop (l_st7_E l.length hN (l.length,20,stb1 ltE l.length l) ⟨by simp only;omega,by simp,by simp,hil.trans b3⟩ _ (by simp [normE,stb1])) ?_
 refine blk_exit (?_)
 all_goals (refine fin_ (hr:=res_nil) (h:=?_);(focus (simp [stb])))
theorem e_stab_E (l : List Er) (hN : l.length < 2000000) : oc.call 175 [.iol 2 (ers l),.clo 176 []] = some (.tup [],[.lst true 2 (ers (stb ltE l))]) := by
 refine fun_s rfl cd175 rfl rfl rfl (by simp;rfl) (by simp;rfl) ?_
 refine wc_region (w_ (m_ (h:=w_ (m_ (h:=w_ (le (h:=w_ (m_ (h:=w_ (?_))))))))))
 refine cI (hc:=e_stbl_E l hN) (hal:=ers_alk (stb_ok O_ltE l).1.length_eq.symm) (h:=?_)
 refine wo_nil (e_ (h:=?_))
 all_goals (refine fin_ (hr:=res_nil) (h:=?_);(focus (simp)))
def etss (t : Bool) (l : List (List Et)) : List V := l.map fun x => .lst t (lz t 2) (ets t x)
@[simp] theorem etss_len (t : Bool) (l : List (List Et)) : (etss t l).length = l.length := by simp [etss]
@[simp] theorem etss_nil (t : Bool) : etss t [] = [] := rfl
@[simp] theorem etss_cons (t : Bool) (x : List Et) (l : List (List Et)) : etss t (x :: l) = .lst t (lz t 2) (ets t x) :: etss t l := rfl
@[simp] theorem etss_join (t : Bool) (l m : List (List Et)) : etss t l ++ etss t m = etss t (l ++ m) := by simp [etss]
@[simp] theorem etss_snocT (l : List (List Et)) (x : List Et) : etss true l ++ [.lst true 2 (ets true x)] = etss true (l ++ [x]) := by simp [etss]
@[simp] theorem etss_snocF (l : List (List Et)) (x : List Et) : etss false l ++ [.lst false 0 (ets false x)] = etss false (l ++ [x]) := by simp [etss]
@[simp] theorem etss_setT (l : List (List Et)) (i : Nat) (x : List Et) : (etss true l).set i (.lst true 2 (ets true x)) = etss true (l.set i x) := by simp [etss,List.map_set]
@[simp] theorem etss_setF (l : List (List Et)) (i : Nat) (x : List Et) : (etss false l).set i (.lst false 0 (ets false x)) = etss false (l.set i x) := by simp [etss,List.map_set]
theorem etss_zero (m : Nat) : List.replicate m (V.lst true 2 []) = etss true (List.replicate m []) := by simp [etss]
theorem etss_get {t : Bool} {l : List (List Et)} {i : Nat} {x : List Et} (h : l[i]? = some x) : (etss t l)[i]? = some (.lst t (lz t 2) (ets t x)) := by simp [etss,h]
theorem etss_at {t : Bool} {l : List (List Et)} {i : Nat} (h : i < l.length) : (etss t l)[(i : Int).toNat]? = some (.lst t (lz t 2) (ets t l[i])) := etss_get (by simp [h])
theorem etss_cut {t : Bool} {l : List (List Et)} {i : Nat} (h : i < l.length) : ∃ x,l[i]? = some x ∧ l.drop i = x :: l.drop (i + 1) ∧ (etss t l)[(i : Int).toNat]? = some (.lst t (lz t 2) (ets t x)) :=
  ⟨l[i],by simp [h],List.drop_eq_getElem_cons h,etss_at h⟩
@[simp] theorem etss_take (t : Bool) (n : Nat) (l : List (List Et)) : (etss t l).take n = etss t (l.take n) := by simp [etss,List.map_take]
@[simp] theorem etss_drop (t : Bool) (n : Nat) (l : List (List Et)) : (etss t l).drop n = etss t (l.drop n) := by simp [etss,List.map_drop]
@[simp] theorem etss_shareL (t : Bool) (l : List (List Et)) : V.shareL (etss t l) = etss false l := by
  induction l with
  | nil => rfl
  | cons x l ih => simp [V.shareL,ih,lst_share]
@[simp] theorem etss_tidyT (l : List (List Et)) : V.tidyL (etss true l) = true := by
  induction l with
  | nil => rfl
  | cons x l ih => simp [V.tidyL,V.tidy,ih]
theorem alikeL_lss {α β : Type} {f : α → V} {g : β → V} (hf : ∀ x y,(f x).alike (g y) = true) : ∀ {a : List α} {b : List β},V.alikeL (a.map f) (b.map g) = decide (a.length = b.length)
  | [],[] => rfl
  | [],_ :: _ => by simp [V.alikeL]
  | _ :: _,[] => by simp [V.alikeL]
  | x :: a,y :: b => by simp only [List.map_cons,V.alikeL,hf,Bool.true_and,alikeL_lss hf (a:=a) (b:=b),List.length_cons,Nat.add_right_cancel_iff]
@[simp] theorem alike_etss (t u : Bool) (a b : List (List Et)) : V.alikeL (etss t a) (etss u b) = decide (a.length = b.length) := alikeL_lss (fun _ _ => rfl)
def frss (t : Bool) (l : List (List Fr)) : List V := l.map fun x => .lst t (lz t 6) (frs t x)
@[simp] theorem frss_len (t : Bool) (l : List (List Fr)) : (frss t l).length = l.length := by simp [frss]
@[simp] theorem frss_nil (t : Bool) : frss t [] = [] := rfl
@[simp] theorem frss_cons (t : Bool) (x : List Fr) (l : List (List Fr)) : frss t (x :: l) = .lst t (lz t 6) (frs t x) :: frss t l := rfl
@[simp] theorem frss_join (t : Bool) (l m : List (List Fr)) : frss t l ++ frss t m = frss t (l ++ m) := by simp [frss]
@[simp] theorem frss_snocT (l : List (List Fr)) (x : List Fr) : frss true l ++ [.lst true 6 (frs true x)] = frss true (l ++ [x]) := by simp [frss]
@[simp] theorem frss_snocF (l : List (List Fr)) (x : List Fr) : frss false l ++ [.lst false 0 (frs false x)] = frss false (l ++ [x]) := by simp [frss]
@[simp] theorem frss_setT (l : List (List Fr)) (i : Nat) (x : List Fr) : (frss true l).set i (.lst true 6 (frs true x)) = frss true (l.set i x) := by simp [frss,List.map_set]
@[simp] theorem frss_setF (l : List (List Fr)) (i : Nat) (x : List Fr) : (frss false l).set i (.lst false 0 (frs false x)) = frss false (l.set i x) := by simp [frss,List.map_set]
@[simp] theorem frss_take (t : Bool) (n : Nat) (l : List (List Fr)) : (frss t l).take n = frss t (l.take n) := by simp [frss,List.map_take]
@[simp] theorem frss_drop (t : Bool) (n : Nat) (l : List (List Fr)) : (frss t l).drop n = frss t (l.drop n) := by simp [frss,List.map_drop]
@[simp] theorem frss_shareL (t : Bool) (l : List (List Fr)) : V.shareL (frss t l) = frss false l := by
  induction l with
  | nil => rfl
  | cons x l ih => simp [V.shareL,ih,lst_share]
@[simp] theorem frss_tidyT (l : List (List Fr)) : V.tidyL (frss true l) = true := by
  induction l with
  | nil => rfl
  | cons x l ih => simp [V.tidyL,V.tidy,ih]
@[simp] theorem alike_frss (t u : Bool) (a b : List (List Fr)) : V.alikeL (frss t a) (frss u b) = decide (a.length = b.length) := alikeL_lss (fun _ _ => rfl)
end Go.Proofs.Ytgkbmiaimjpbfaa.Ev
namespace Go.Proofs.Ytgkbmiaimjpbfaa.Ev
open Go
set_option maxRecDepth 100000
set_option linter.unusedSimpArgs false
set_option linter.unusedVariables false
set_option maxHeartbeats 2000000
theorem cellsAll_map {α : Type} {f : α → V} {k : Nat} (h : ∀ x,(f x).cells = k) : ∀ l : List α,V.cellsAll k (l.map f) = true
  | [] => rfl
  | x :: l => by simp only [List.map_cons,V.cellsAll,List.all_cons,h,decide_true,Bool.true_and];exact cellsAll_map h l
@[simp] theorem cellsAll_ints (l : List Int) : V.cellsAll 1 (ints l) = true := cellsAll_map (f:=.int .i64) (fun _ => rfl) l
@[simp] theorem cellsAll_ets (t : Bool) (l : List Et) : V.cellsAll 2 (ets t l) = true := cellsAll_map (f:=Et.v t) (fun _ => rfl) l
@[simp] theorem cellsAll_cts (l : List Ct) : V.cellsAll 3 (cts l) = true := cellsAll_map (f:=Ct.v) (fun _ => rfl) l
@[simp] theorem cellsAll_frs (t : Bool) (l : List Fr) : V.cellsAll 6 (frs t l) = true := cellsAll_map (f:=Fr.v t) (fun _ => rfl) l
@[simp] theorem cellsAll_nds (t : Bool) (s : Nat) (l : List Nd) : V.cellsAll 7 (nds t s l) = true := cellsAll_map (f:=fun d : Nd => d.v t s) (fun _ => rfl) l
theorem c1_I (l : List Int) (hl : l.length < 2000000) (h : l ≠ []) : runE oc cf 155 [.lst false 0 (ints l)] = some (.lst true 1 (ints l),[]) := by
 refine run_s cd155 rfl rfl rfl (by first | (simp;rfl) | rfl) (by first | (simp;rfl) | rfl) ?_
 have hne : ints l ≠ [] := by simpa [ints] using h
 refine wa_ (wc_region (w_ (aN (h:=wo_nil (e_ (h:=aft_normal (wa_ (wa_ (wc_region (w_ (m_ (h:=w_ (bN (h:=wo_nil (e_ (h:=aft_normal (?_)))))))))))))))))
 refine c_ (h1:=?_) (h2:=?_)
 rotate_right 1
 focus
  intro c1
  refine wc_skip (?_)
 rotate_right 1
 focus
  intro c1
  refine wa_ (wc_region (w_ (aN (h:=wo_nil (e_ (h:=aft_normal (wc_ret (?_))))))))
 all_goals first
 | refine aft_ret ?_
 | (
  refine aft_normal ?_
  refine wa_ (wc_region (w_ (bs (h:=w_ (m_ (h:=w_ (ap (h:=w_ (a_ (h:=wo_nil (e_ (h:=aft_normal (wc_ret (?_))))))))))))))
  )
 all_goals (refine fin_ (hr:=(res_tmp rfl res_nil)) (h:=?_);(focus (first | (simp_all;done) | (simp_all <;> omega) | (simp_all <;> split <;> simp_all <;> omega))))
theorem c2_I  : runE oc cf 155 [.emp true] = some (.lst true 1 [],[]) := by
 refine run_s cd155 rfl rfl rfl (by first | (simp;rfl) | rfl) (by first | (simp;rfl) | rfl) ?_
 refine wa_ (wc_region (w_ (aN (h:=wo_nil (e_ (h:=aft_normal (wa_ (wa_ (wc_region (w_ (m_ (h:=w_ (bN (h:=wo_nil (e_ (h:=aft_normal (?_)))))))))))))))))
 refine c_ (h1:=?_) (h2:=?_)
 rotate_right 1
 focus
  intro c1
  first
  | exact dn c1
  | (
   have d1 := c1;try simp at d1
   refine wc_skip (?_)
   )
 rotate_right 1
 focus
  intro c1
  first
  | exact dn c1
  | (
   have d1 := c1;try simp at d1
   refine wa_ (wc_region (w_ (aN (h:=wo_nil (e_ (h:=aft_normal (wc_ret (?_))))))))
   )
 all_goals first
 | refine aft_ret ?_
 | (
  refine aft_normal ?_
  refine wa_ (wc_region (w_ (bs (h:=w_ (m_ (h:=w_ (ap (h:=w_ (a_ (h:=wo_nil (e_ (h:=aft_normal (wc_ret (?_))))))))))))))
  )
 all_goals (refine fin_ (hr:=(res_tmp rfl res_nil)) (h:=?_);(focus (first | (simp_all;done) | (simp_all <;> omega) | (simp_all <;> split <;> simp_all <;> omega))))
theorem c3_I  : runE oc cf 155 [.emp false] = some (.lst true 1 [],[]) := by
 refine run_s cd155 rfl rfl rfl (by first | (simp;rfl) | rfl) (by first | (simp;rfl) | rfl) ?_
 refine wa_ (wc_region (w_ (aN (h:=wo_nil (e_ (h:=aft_normal (wa_ (wa_ (wc_region (w_ (m_ (h:=w_ (bN (h:=wo_nil (e_ (h:=aft_normal (?_)))))))))))))))))
 refine c_ (h1:=?_) (h2:=?_)
 rotate_right 1
 focus
  intro c1
  first
  | exact dn c1
  | (
   have d1 := c1;try simp at d1
   refine wc_skip (?_)
   )
 rotate_right 1
 focus
  intro c1
  first
  | exact dn c1
  | (
   have d1 := c1;try simp at d1
   refine wa_ (wc_region (w_ (aN (h:=wo_nil (e_ (h:=aft_normal (wc_ret (?_))))))))
   )
 all_goals first
 | refine aft_ret ?_
 | (
  refine aft_normal ?_
  refine wa_ (wc_region (w_ (bs (h:=w_ (m_ (h:=w_ (?_)))))))
  refine ap (hlen:=by decide) (h:=?_)
  refine w_ (a_ (h:=wo_nil (e_ (h:=aft_normal (wc_ret (?_))))))
  )
 all_goals (refine fin_ (hr:=(res_tmp rfl res_nil)) (h:=?_);(focus (first | (simp_all;done) | (simp_all <;> omega) | (simp_all <;> split <;> simp_all <;> omega))))
theorem e_cloneI (l : List Int) (hl : l.length < 2000000) : oc.call 155 [.lst false 0 (ints l)] = some (.lst true 1 (ints l),[]) :=
  nil_s rfl (fun h => c1_I l hl (by rintro rfl;exact h rfl)) (fun h => by have : l = [] := (by simpa [ints] using h);subst this;exact c2_I) (fun h => by have : l = [] := (by simpa [ints] using h);subst this;exact c3_I)
def ctss (t : Bool) (l : List (List Ct)) : List V := l.map fun x => .lst t (lz t 3) (cts x)
@[simp] theorem ctss_len (t : Bool) (l : List (List Ct)) : (ctss t l).length = l.length := by simp [ctss]
@[simp] theorem ctss_nil (t : Bool) : ctss t [] = [] := rfl
@[simp] theorem ctss_cons (t : Bool) (x : List Ct) (l : List (List Ct)) : ctss t (x :: l) = .lst t (lz t 3) (cts x) :: ctss t l := rfl
@[simp] theorem ctss_join (t : Bool) (l m : List (List Ct)) : ctss t l ++ ctss t m = ctss t (l ++ m) := by simp [ctss]
@[simp] theorem ctss_snocT (l : List (List Ct)) (x : List Ct) : ctss true l ++ [.lst true 3 (cts x)] = ctss true (l ++ [x]) := by simp [ctss]
@[simp] theorem ctss_snocF (l : List (List Ct)) (x : List Ct) : ctss false l ++ [.lst false 0 (cts x)] = ctss false (l ++ [x]) := by simp [ctss]
@[simp] theorem ctss_setT (l : List (List Ct)) (i : Nat) (x : List Ct) : (ctss true l).set i (.lst true 3 (cts x)) = ctss true (l.set i x) := by simp [ctss,List.map_set]
@[simp] theorem ctss_setF (l : List (List Ct)) (i : Nat) (x : List Ct) : (ctss false l).set i (.lst false 0 (cts x)) = ctss false (l.set i x) := by simp [ctss,List.map_set]
@[simp] theorem ctss_take (t : Bool) (n : Nat) (l : List (List Ct)) : (ctss t l).take n = ctss t (l.take n) := by simp [ctss,List.map_take]
@[simp] theorem ctss_drop (t : Bool) (n : Nat) (l : List (List Ct)) : (ctss t l).drop n = ctss t (l.drop n) := by simp [ctss,List.map_drop]
@[simp] theorem ctss_shareL (t : Bool) (l : List (List Ct)) : V.shareL (ctss t l) = ctss false l := by
  induction l with
  | nil => rfl
  | cons x l ih => simp [V.shareL,ih,lst_share]
@[simp] theorem ctss_tidyT (l : List (List Ct)) : V.tidyL (ctss true l) = true := by
  induction l with
  | nil => rfl
  | cons x l ih => simp [V.tidyL,V.tidy,ih]
@[simp] theorem alike_ctss (t u : Bool) (a b : List (List Ct)) : V.alikeL (ctss t a) (ctss u b) = decide (a.length = b.length) := alikeL_lss (fun _ _ => rfl)
end Go.Proofs.Ytgkbmiaimjpbfaa.Ev
namespace Go.Proofs.Ytgkbmiaimjpbfaa.Ev
open Go
set_option maxRecDepth 100000
set_option linter.unusedSimpArgs false
set_option linter.unusedVariables false
set_option maxHeartbeats 2000000
section
variable {id base : Nat} {e : List (Nat × V)} {o : List (Nat × Ob)} {n : Nat} {t : TypeId} {K : V → List (Nat × Ob) → Prop}
theorem caT {args : Array Operand} {ts : Array TypeId} {fo : Operand} {f g : FuncId} {q m sz : Nat} {ys : List V} {ob : Ob} {o1 : List (Nat × Ob)} {id' : Nat} (hx : opsV e args.toList = some [.ref q 0 m,.clo g []] := by exact rfl) (hf : opV e fo = some (.clo f []) := by exact rfl) (hB : cf.inB f = false := by (rw [cf_in];rfl)) (hmd : cf.md f = [.take] := by (rw [cf_md];rfl)) (ho : geta o q = some ob := by exact rfl) (hb : ob.bx = false := by rfl) (hfx : ob.fx = false := by rfl) (hm : m = ob.xs.length := by first | rfl | simp) (hd : dela o q = o1 := by (simp;rfl))
    (hc : oc.call f [.lst true ob.sz ob.xs,.clo g []] = some (.lst true sz ys,[])) (hid : id = id' := by ((try simp);rfl)) (h : K (.ref id' 0 ys.length) ((id',⟨false,false,sz,ys,0⟩) :: o1)) : opK oc.call cf id base e o n t (.call ⟨.value fo,args,ts⟩) K := by
  subst hd hm hid
  refine ⟨_,_,?_,h⟩
  have hg : St.give ⟨e,o,n⟩ q 0 ob.xs.length = some (ob.sz,ob.xs,⟨e,dela o q,n⟩) := by
    simp only [St.give,ho,hb,hfx,Nat.zero_add,Nat.le_refl,and_self,if_true,List.drop_zero,List.take_length]
  have hz : V.fz (.ref q 0 ob.xs.length) ⟨e,o,n⟩ = some (.lst true ob.sz ob.xs,⟨e,dela o q,n⟩) := by
    simp only [V.fz,hg,mp_some]
  have hs : V.snapA ⟨e,dela o q,n⟩ (.clo g []) = some (.clo g []) := rfl
  simp only [opE,hx,hf,V.capsOk,if_true,hB,Bool.false_eq_true,if_false,List.append_nil,callV,hmd,lendV,lendOne,List.headD_cons,List.tail_cons,List.headD_nil,List.tail_nil,hz,V.argOk,V.isTup,snapsV,hs,mp_some,hc,plainM,V.mention,V.mentionL,List.isEmpty_nil,true_or,V.thaw,true_and,backs,List.nil_append,List.singleton_append]
  rw [if_pos (by omega)]
end
theorem cut_tailC {e : List (Nat × V)} {o : List (Nat × Ob)} {n N I : Nat} {ob : Ob} {k : Nat} {a : Int} (ha : a = (I : Int)) (hI : I < N) (ho : geta o 0 = some ob) (hs : ob.sz = k) : cutV ⟨e,o,n⟩ k (.ref 0 0 N) a (N : Int) = some (.ref 0 I (N - I)) := by
  subst ha
  unfold cutV
  by_cases h : (I : Int) = 0
  · have : I = 0 := by omega
    subst this
    simp
  · simp only [if_neg h,if_neg (show ¬ (I : Int) = (N : Int) by omega),ho,hs,if_true]
    simp
end Go.Proofs.Ytgkbmiaimjpbfaa.Ev
namespace Go.Proofs.Ytgkbmiaimjpbfaa.Ev
open Go
set_option maxRecDepth 100000
set_option linter.unusedSimpArgs false
set_option linter.unusedVariables false
set_option maxHeartbeats 2000000
theorem nth_mem {α : Type} [Inhabited α] {l : List α} {i : Nat} (h : i < l.length) : nth l i ∈ l := List.mem_of_getElem? (nth_get h)
theorem cut_tailQ {e : List (Nat × V)} {o : List (Nat × Ob)} {n N I q : Nat} {ob : Ob} {k : Nat} {a : Int} (ha : a = (I : Int)) (h0 : 0 < I) (hI : I < N) (ho : geta o q = some ob) (hs : ob.sz = k) : cutV ⟨e,o,n⟩ k (.ref q 0 N) a (N : Int) = some (.ref q I (N - I)) := by
  subst ha
  unfold cutV
  simp only [if_neg (show ¬ (I : Int) = 0 by omega),if_neg (show ¬ (I : Int) = (N : Int) by omega),ho,hs,if_true]
  simp
theorem cut_end {s : St} {N I q k : Nat} {a : Int} (ha : a = (I : Int)) (h0 : 0 < I) (hI : I = N) : cutV s k (.ref q 0 N) a (N : Int) = some (.lst false 0 []) := by
  subst ha hI
  unfold cutV
  simp only [if_neg (show ¬ (I : Int) = 0 by omega),if_true]
theorem cut_zero {s : St} {N I q k : Nat} {a : Int} (ha : a = (I : Int)) (h0 : I = 0) : cutV s k (.ref q 0 N) a (N : Int) = some (.ref q 0 N) := by
  subst ha h0
  simp [cutV]
end Go.Proofs.Ytgkbmiaimjpbfaa.Ev
namespace Go.Proofs.Ytgkbmiaimjpbfaa.Ev
open Go
set_option maxRecDepth 100000
set_option linter.unusedSimpArgs false
set_option linter.unusedVariables false
set_option maxHeartbeats 2000000
def prevG {α : Type} (l : List α) (i : Nat) : Option α := if i = 0 then none else l[i - 1]?
theorem prevG_succ {α : Type} {l : List α} {i : Nat} {c : α} (h : l[i]? = some c) : prevG l (i + 1) = some c := by simp [prevG,h]
theorem prevE_pos {l : List Et} {i : Nat} (h0 : 0 < i) (h : i ≤ l.length) (hi : i < 2000000000) : ∃ q,q ∈ l ∧ prevG l i = some q ∧ (ets false l)[(IntKind.i64.wrap ((i : Int) - 1)).toNat]? = some (q.v false) ∧ 0 ≤ IntKind.i64.wrap ((i : Int) - 1) := by
  have hw : IntKind.i64.wrap ((i : Int) - 1) = ((i - 1 : Nat) : Int) := by rw [wrap_id (by omega) (by omega)];omega
  have hlt : i - 1 < l.length := by omega
  refine ⟨l[i - 1],List.getElem_mem hlt,?_,?_,by rw [hw];omega⟩
  · unfold prevG;rw [if_neg (by omega)];simp [hlt]
  · rw [hw];exact ets_at hlt
def wOk (n : Int) : Bool := inI n (-1000000000000) 1000000000000
def setR : Option Et → List Et → Int
  | _,[] => 0
  | p,e :: r => if rowF e.row = 0 then (if wOk e.w = false ∨ e.w = 0 then 3 else if (p.elim false fun q => decide (0 ≤ cmpL q.row e.row)) = true then 1 else setR (some e) r) else rowF e.row
def setC (z : List Et) : Int := if 200 < z.length then 2 else setR none z
theorem setR_row {p : Option Et} {e : Et} {r : List Et} (h : ¬ rowF e.row = 0) : setR p (e :: r) = rowF e.row := by rw [setR,if_neg h]
theorem setR_3 {p : Option Et} {e : Et} {r : List Et} (h : rowF e.row = 0) (h2 : wOk e.w = false ∨ e.w = 0) : setR p (e :: r) = 3 := by rw [setR,if_pos h,if_pos h2]
theorem setR_1 {p : Option Et} {e : Et} {r : List Et} (h : rowF e.row = 0) (h2 : ¬ (wOk e.w = false ∨ e.w = 0)) (h3 : (p.elim false fun q => decide (0 ≤ cmpL q.row e.row)) = true) : setR p (e :: r) = 1 := by rw [setR,if_pos h,if_neg h2,if_pos h3]
theorem setR_0 {p : Option Et} {e : Et} {r : List Et} (h : rowF e.row = 0) (h2 : ¬ (wOk e.w = false ∨ e.w = 0)) (h3 : ¬ (p.elim false fun q => decide (0 ≤ cmpL q.row e.row)) = true) : setR p (e :: r) = setR (some e) r := by rw [setR,if_pos h,if_neg h2,if_neg h3]
theorem l_setI (z : List Et) (hz : w_Ets z < 2000000) (hl : z.length ≤ 200) : ∀ i : Nat,(i ≤ z.length) → ∀ s,normE 1 (some [0,9,10,11]) s = ⟨[(0,.lst false 0 (ets false z)),(9,.lst false 0 (ets false z)),(10,.int .i64 z.length),(11,.int .i64 i)],[],1⟩ →
 oc.loop 76 4 s = some (if setR (prevG z i) (z.drop i) = 0 then (.exit 0,⟨[],[],1⟩) else (.ret,⟨[(2,.int .i64 (setR (prevG z i) (z.drop i)))],[],1⟩)) := by
 refine loop_ind (σ:=Nat) (fun i => z.length - i) _ (fun i => ⟨[(0,.lst false 0 (ets false z)),(9,.lst false 0 (ets false z)),(10,.int .i64 z.length),(11,.int .i64 i)],[],1⟩) _ ?_
 intro i hi ih s hs
 refine loop_s cd76 rfl rfl hs ?_
 refine wa_ (wc_region (w_ (b_ (h:=wo_nil (e_ (h:=aft_normal (wa_ (?_))))))))
 refine c_ (h1:=?_) (h2:=?_)
 rotate_right 1
 focus
  intro c1
  first
  | exact dn c1
  | (
   have d1 := c1;try simp at d1
   refine wc_exit (?_)
   )
 rotate_right 1
 focus
  intro c1
  first
  | exact dn c1
  | (
   have d1 := c1;try simp at d1
   have hw := wrap_succ (i:=i) (by omega);obtain ⟨c,hx,e1,g1⟩ := ets_cut (t:=false) (l:=z) (i:=i) (by omega);have hs1 := prevG_succ hx;have hm := w_Ets_mem (List.mem_of_getElem? hx);have hrow : c.row.length < 2000000 := (by unfold w_Et at hm;omega)
   refine wc_skip (?_)
   )
 all_goals first
 | refine aft_exit ?_
 | (
  refine aft_normal ?_
  refine wa_ (wc_block (wa_ (wc_region (w_ (m_ (h:=w_ (x_ (h:=w_ (l_ (h:=w_ (al (h:=w_ (a_ (h:=w0 (s_ (h:=wo_nil (e_ (h:=aft_normal (?_)))))))))))))))))))
  refine wa_ (wa_ (wc_region (w_ (f_ (h:=w_ (l_ (h:=w_ (ca (hc:=e_rowI c.row hrow) (h:=w_ (a_ (h:=wo_nil (e_ (h:=aft_normal (wa_ (wc_region (w_ (m_ (h:=?_))))))))))))))))))
  refine w_ (bE (h:=wo_nil (e_ (h:=aft_normal (?_)))))
  refine c_ (h1:=?_) (h2:=?_)
  rotate_right 1
  focus
   intro c2
   first
   | exact dn c2
   | (
    have d2 := c2;try simp at d2
    refine wc_skip (?_)
    )
  rotate_right 1
  focus
   intro c2
   first
   | exact dn c2
   | (
    have d2 := c2;try simp at d2
    refine wa_ (wc_region (w_ (m_ (h:=w_ (a_ (h:=wo_nil (e_ (h:=aft_normal (wc_ret (?_))))))))))
    )
  all_goals first
  | refine aft_ret ?_
  | (
   refine aft_normal ?_
   refine wa_ (wa_ (wc_region (w_ (f_ (h:=w_ (l_ (h:=w_ (ca (hc:=e_isWeight _) (h:=w_ (u_ (h:=w_ (m_ (h:=?_)))))))))))))
   refine gw_ (h1:=?_) (h2:=?_)
   rotate_right 1
   focus
    intro c3
    first
    | exact dn c3
    | (
     have d3 := c3;try simp at d3
     refine go_ (h:=go_ (h:=go_ (h:=?_)))
     )
   rotate_right 1
   focus
    intro c3
    first
    | exact dn c3
    | (
     have d3 := c3;try simp at d3
     refine g_ (h:=w_ (f_ (h:=g_ (h:=w_ (l_ (h:=g_ (h:=w_ (bE (h:=?_)))))))))
     )
   all_goals
    refine w_ (pk (h:=wo_nil (e_ (h:=?_))))
   all_goals first
   | (
    refine aft_normal ?_
    refine c_ (h1:=?_) (h2:=?_)
    rotate_right 1
    focus
     intro c4
     first
     | exact dn c4
     | (
      have d4 := c4;try simp at d4
      refine wc_skip (?_)
      )
    rotate_right 1
    focus
     intro c4
     first
     | exact dn c4
     | (
      have d4 := c4;try simp at d4
      refine wa_ (wc_region (w_ (a_ (h:=wo_nil (e_ (h:=aft_normal (wc_ret (?_))))))))
      )
    )
   all_goals first
   | refine aft_ret ?_
   | (
    refine aft_normal ?_
    refine wa_ (wc_draw (y_ (m_ (h:=ax_ (h:=y_ (b_ (h:=ax_ (h:=y_ (m_ (h:=ax_ (h:=?_)))))))))))
    refine gw_ (h1:=?_) (h2:=?_)
    rotate_right 1
    focus
     intro c5
     first
     | exact dn c5
     | (
      have d5 := c5;try simp at d5
      refine gd_ (h:=gd_ (h:=gd_ (h:=gd_ (h:=gd_ (h:=gd_ (h:=gd_ (h:=gd_ (h:=gd_ (h:=gd_ (h:=?_))))))))))
      )
    rotate_right 1
    focus
     intro c5
     first
     | exact dn c5
     | (
      have d5 := c5;try simp at d5
      obtain ⟨q,hqm,hq,g2,g3⟩ := prevE_pos (l:=z) (i:=i) (by omega) (by omega) (by omega);have hm2 := w_Ets_mem hqm;have hrow2 : q.row.length < 2000000 := (by unfold w_Et at hm2;omega)
      refine g_ (h:=y_ (m_ (h:=ax_ (h:=g_ (h:=y_ (m_ (h:=ax_ (h:=g_ (h:=y_ (b_ (h:=ax_ (h:=g_ (h:=y_ (x_ (h:=ax_ (h:=g_ (h:=y_ (f_ (h:=ax_ (h:=g_ (h:=y_ (l_ (h:=ax_ (h:=g_ (h:=y_ (f_ (h:=ax_ (h:=g_ (h:=y_ (l_ (h:=ax_ (h:=g_ (h:=y_ (ca (hc:=e_cmpRI q.row c.row hrow2 hrow) (h:=ax_ (h:=g_ (h:=y_ (b_ (h:=ax_ (h:=?_))))))))))))))))))))))))))))))))))))))))
      )
    all_goals
     refine y_ (pk (h:=ax_ (h:=wo_nil (ed (h:=?_)))))
    all_goals first
    | (
     refine aft_normal ?_
     refine c_ (h1:=?_) (h2:=?_)
     rotate_right 1
     focus
      intro c6
      first
      | exact dn c6
      | (
       have d6 := c6;try simp at d6
       refine wc_skip (?_)
       )
     rotate_right 1
     focus
      intro c6
      first
      | exact dn c6
      | (
       have d6 := c6;try simp at d6
       refine wa_ (wc_region (w_ (a_ (h:=wo_nil (e_ (h:=aft_normal (wc_ret (?_))))))))
       )
     )
    )
   )
  all_goals first | refine blk_normal ?_ | refine blk_ret ?_
  all_goals first
  | refine aft_ret ?_
  | (
   refine aft_normal ?_
   refine wc_region (w_ (b_ (h:=w_ (m_ (h:=wo_nil (e_ (h:=?_)))))))
   )
  )
 all_goals first
 | (refine (ih (i + 1) (by omega) ?_ _ ?_).trans ?_;(focus (first | omega | (simp;done) | (simp;omega)));(focus (simp [normE,hw];done));(focus (rw [hs1,e1,setR_0 d2 (by simp [wOk,d3,d4]) (by first | (rw [hq];simp;omega) | (subst d5;simp [prevG]))])))
 | (apply end_leaf (ex:=Ext.ret) 1 (some [2]);(focus (simp [normE];rfl));(focus (rw [e1,setR_row d2];simp [d2])))
 | (apply end_leaf (ex:=Ext.ret) 1 (some [2]);(focus (simp [normE];rfl));(focus (rw [e1,setR_3 d2 (by first | exact .inl d3 | exact .inr d4)];simp)))
 | (apply end_leaf (ex:=Ext.ret) 1 (some [2]);(focus (simp [normE];rfl));(focus (rw [e1,setR_1 d2 (by simp [wOk,d3,d4]) (by rw [hq];simp;omega)];simp)))
 | (apply end_leaf (ex:=(Ext.exit 0)) 1 (some [2]);(focus (simp [normE];rfl));(focus (rw [List.drop_eq_nil_of_le (by omega)];simp [setR])))
theorem e_setI (z : List Et) (hz : w_Ets z < 2000000) : oc.call 76 [.lst false 0 (ets false z)] = some (.int .i64 (setC z),[]) := by
 refine fun_s rfl cd76 rfl rfl rfl (by simp;rfl) (by simp;rfl) ?_
 refine wa_ (wc_region (w_ (a_ (h:=wo_nil (e_ (h:=aft_normal (wa_ (wa_ (wc_region (w_ (m_ (h:=w_ (le (h:=w_ (b_ (h:=wo_nil (e_ (h:=?_))))))))))))))))))
 refine aft_normal (?_)
 refine c_ (h1:=?_) (h2:=?_)
 rotate_right 1
 focus
  intro c1
  first
  | exact dn c1
  | (
   have d1 := c1;try simp at d1
   refine wc_skip (?_)
   )
 rotate_right 1
 focus
  intro c1
  first
  | exact dn c1
  | (
   have d1 := c1;try simp at d1
   refine wa_ (wc_region (w_ (a_ (h:=wo_nil (e_ (h:=aft_normal (wc_ret (?_))))))))
   )
 all_goals first
 | refine aft_ret ?_
 | (
  refine aft_normal ?_
  refine wa_ (wa_ (wc_region (w_ (m_ (h:=w_ (le (h:=w_ (m_ (h:=wo_nil (e_ (h:=aft_normal (wc_block (?_)))))))))))))
  refine wc_loopI (l_setI z hz (by omega) 0 (by omega) _ (by simp [normE])) ?_ ?_
  rotate_right 1
  focus
   intro c2
   first
   | exact dn c2
   | (
    have d2 := c2;try simp at d2
    skip
    )
  rotate_right 1
  focus
   intro c2
   first
   | exact dn c2
   | (
    have d2 := c2;try simp at d2
    skip
    )
  all_goals first | refine blk_ret ?_ | refine blk_exit ?_
  all_goals first
  | refine aft_ret ?_
  | (
   refine aft_normal ?_
   refine wa_ (wc_region (w_ (a_ (h:=wo_nil (e_ (h:=aft_normal (wc_ret (?_))))))))
   )
  )
 all_goals (refine fin_ (hr:=(res_tmp rfl res_nil)) (h:=?_);(focus (simp [setC,prevG] at * <;> grind)))
theorem l_setS (z : List Et) (hz : w_Ets z < 2000000) (hl : z.length ≤ 200) : ∀ i : Nat,(i ≤ z.length) → ∀ s,normE 1 (some [0,3]) s = ⟨[(0,.lst false 0 (ets false z)),(3,.int .i64 i)],[],1⟩ →
 oc.loop 70 4 s = some (if setR (prevG z i) (z.drop i) = 0 then (.exit 0,⟨[],[],1⟩) else (.ret,⟨[(2,.int .i64 (setR (prevG z i) (z.drop i)))],[],1⟩)) := by
 refine loop_ind (σ:=Nat) (fun i => z.length - i) _ (fun i => ⟨[(0,.lst false 0 (ets false z)),(3,.int .i64 i)],[],1⟩) _ ?_
 intro i hi ih s hs
 refine loop_s cd70 rfl rfl hs ?_
 refine wa_ (wa_ (wc_region (w_ (m_ (h:=w_ (m_ (h:=w_ (le (h:=w_ (b_ (h:=wo_nil (e_ (h:=aft_normal (?_))))))))))))))
 refine c_ (h1:=?_) (h2:=?_)
 rotate_right 1
 focus
  intro c1
  first
  | exact dn c1
  | (
   have d1 := c1;try simp at d1
   refine wc_exit (?_)
   )
 rotate_right 1
 focus
  intro c1
  first
  | exact dn c1
  | (
   have d1 := c1;try simp at d1
   have hw := wrap_succ (i:=i) (by omega);obtain ⟨c,hx,e1,g1⟩ := ets_cut (t:=false) (l:=z) (i:=i) (by omega);have hs1 := prevG_succ hx;have hm := w_Ets_mem (List.mem_of_getElem? hx);have hrow : c.row.length < 2000000 := (by unfold w_Et at hm;omega)
   refine wc_skip (?_)
   )
 all_goals first
 | refine aft_exit ?_
 | (
  refine aft_normal ?_
  refine wa_ (wc_block (wa_ (wa_ (wc_region (w_ (m_ (h:=w_ (m_ (h:=w_ (x_ (h:=w_ (f_ (h:=w_ (l_ (h:=w_ (ca (hc:=e_rowS c.row hrow) (h:=w_ (a_ (h:=?_)))))))))))))))))))
  refine wo_nil (e_ (h:=aft_normal (wa_ (wc_region (w_ (m_ (h:=w_ (bE (h:=wo_nil (e_ (h:=aft_normal (?_))))))))))))
  refine c_ (h1:=?_) (h2:=?_)
  rotate_right 1
  focus
   intro c2
   first
   | exact dn c2
   | (
    have d2 := c2;try simp at d2
    refine wc_skip (?_)
    )
  rotate_right 1
  focus
   intro c2
   first
   | exact dn c2
   | (
    have d2 := c2;try simp at d2
    refine wa_ (wc_region (w_ (m_ (h:=w_ (a_ (h:=wo_nil (e_ (h:=aft_normal (wc_ret (?_))))))))))
    )
  all_goals first
  | refine aft_ret ?_
  | (
   refine aft_normal ?_
   refine wa_ (wa_ (wc_region (w_ (m_ (h:=w_ (m_ (h:=w_ (x_ (h:=w_ (f_ (h:=w_ (l_ (h:=w_ (ca (hc:=e_l1Weight _) (h:=w_ (u_ (h:=w_ (m_ (h:=?_)))))))))))))))))))
   refine gw_ (h1:=?_) (h2:=?_)
   rotate_right 1
   focus
    intro c3
    first
    | exact dn c3
    | (
     have d3 := c3;try simp at d3
     refine go_ (h:=go_ (h:=go_ (h:=go_ (h:=go_ (h:=go_ (h:=?_))))))
     )
   rotate_right 1
   focus
    intro c3
    first
    | exact dn c3
    | (
     have d3 := c3;try simp at d3
     refine g_ (h:=w_ (m_ (h:=g_ (h:=w_ (m_ (h:=g_ (h:=w_ (x_ (h:=g_ (h:=w_ (f_ (h:=g_ (h:=w_ (l_ (h:=g_ (h:=w_ (bE (h:=?_))))))))))))))))))
     )
   all_goals
    refine w_ (pk (h:=wo_nil (e_ (h:=?_))))
   all_goals first
   | (
    refine aft_normal ?_
    refine c_ (h1:=?_) (h2:=?_)
    rotate_right 1
    focus
     intro c4
     first
     | exact dn c4
     | (
      have d4 := c4;try simp at d4
      refine wc_skip (?_)
      )
    rotate_right 1
    focus
     intro c4
     first
     | exact dn c4
     | (
      have d4 := c4;try simp at d4
      refine wa_ (wc_region (w_ (a_ (h:=wo_nil (e_ (h:=aft_normal (wc_ret (?_))))))))
      )
    )
   all_goals first
   | refine aft_ret ?_
   | (
    refine aft_normal ?_
    refine wa_ (wc_draw (y_ (m_ (h:=ax_ (h:=y_ (b_ (h:=ax_ (h:=y_ (m_ (h:=ax_ (h:=?_)))))))))))
    refine gw_ (h1:=?_) (h2:=?_)
    rotate_right 1
    focus
     intro c5
     first
     | exact dn c5
     | (
      have d5 := c5;try simp at d5
      refine gd_ (h:=gd_ (h:=gd_ (h:=gd_ (h:=gd_ (h:=gd_ (h:=gd_ (h:=gd_ (h:=gd_ (h:=gd_ (h:=gd_ (h:=gd_ (h:=?_))))))))))))
      refine gd_ (h:=?_)
      )
    rotate_right 1
    focus
     intro c5
     first
     | exact dn c5
     | (
      have d5 := c5;try simp at d5
      obtain ⟨q,hqm,hq,g2,g3⟩ := prevE_pos (l:=z) (i:=i) (by omega) (by omega) (by omega);have hm2 := w_Ets_mem hqm;have hrow2 : q.row.length < 2000000 := (by unfold w_Et at hm2;omega);have han := cmpL_anti c.row q.row
      refine g_ (h:=y_ (m_ (h:=ax_ (h:=g_ (h:=y_ (m_ (h:=ax_ (h:=g_ (h:=y_ (x_ (h:=ax_ (h:=g_ (h:=y_ (f_ (h:=ax_ (h:=g_ (h:=y_ (l_ (h:=ax_ (h:=g_ (h:=y_ (m_ (h:=ax_ (h:=g_ (h:=y_ (m_ (h:=ax_ (h:=g_ (h:=y_ (b_ (h:=ax_ (h:=g_ (h:=y_ (x_ (h:=ax_ (h:=g_ (h:=y_ (f_ (h:=ax_ (h:=g_ (h:=y_ (l_ (h:=ax_ (h:=g_ (h:=y_ (ca (hc:=e_cmpRS c.row q.row hrow hrow2) (h:=ax_ (h:=?_))))))))))))))))))))))))))))))))))))))))))))))))
      refine g_ (h:=y_ (b_ (h:=ax_ (h:=?_))))
      )
    all_goals
     refine y_ (pk (h:=ax_ (h:=wo_nil (ed (h:=?_)))))
    all_goals first
    | (
     refine aft_normal ?_
     refine c_ (h1:=?_) (h2:=?_)
     rotate_right 1
     focus
      intro c6
      first
      | exact dn c6
      | (
       have d6 := c6;try simp at d6
       refine wc_skip (?_)
       )
     rotate_right 1
     focus
      intro c6
      first
      | exact dn c6
      | (
       have d6 := c6;try simp at d6
       refine wa_ (wc_region (w_ (a_ (h:=wo_nil (e_ (h:=aft_normal (wc_ret (?_))))))))
       )
     )
    )
   )
  all_goals first | refine blk_normal ?_ | refine blk_ret ?_
  all_goals first
  | refine aft_ret ?_
  | (
   refine aft_normal ?_
   refine wc_region (w_ (m_ (h:=w_ (b_ (h:=w_ (a_ (h:=wo_nil (e_ (h:=?_)))))))))
   )
  )
 all_goals first
 | (refine (ih (i + 1) (by omega) ?_ _ ?_).trans ?_;(focus (first | omega | (simp;done) | (simp;omega)));(focus (simp [normE,hw];done));(focus (rw [hs1,e1,setR_0 d2 (by simp [wOk,d3,d4]) (by first | (rw [hq];simp;omega) | (subst d5;simp [prevG]))])))
 | (apply end_leaf (ex:=Ext.ret) 1 (some [2]);(focus (simp [normE];rfl));(focus (rw [e1,setR_row d2];simp [d2])))
 | (apply end_leaf (ex:=Ext.ret) 1 (some [2]);(focus (simp [normE];rfl));(focus (rw [e1,setR_3 d2 (by first | exact .inl d3 | exact .inr d4)];simp)))
 | (apply end_leaf (ex:=Ext.ret) 1 (some [2]);(focus (simp [normE];rfl));(focus (rw [e1,setR_1 d2 (by simp [wOk,d3,d4]) (by rw [hq];simp;omega)];simp)))
 | (apply end_leaf (ex:=(Ext.exit 0)) 1 (some [2]);(focus (simp [normE];rfl));(focus (rw [List.drop_eq_nil_of_le (by omega)];simp [setR])))
theorem e_setS (z : List Et) (hz : w_Ets z < 2000000) : oc.call 70 [.lst false 0 (ets false z)] = some (.int .i64 (setC z),[]) := by
 refine fun_s rfl cd70 rfl rfl rfl (by simp;rfl) (by simp;rfl) ?_
 refine wa_ (wc_region (w_ (a_ (h:=wo_nil (e_ (h:=aft_normal (wa_ (wa_ (wc_region (w_ (m_ (h:=w_ (le (h:=w_ (b_ (h:=wo_nil (e_ (h:=?_))))))))))))))))))
 refine aft_normal (?_)
 refine c_ (h1:=?_) (h2:=?_)
 rotate_right 1
 focus
  intro c1
  first
  | exact dn c1
  | (
   have d1 := c1;try simp at d1
   refine wc_skip (?_)
   )
 rotate_right 1
 focus
  intro c1
  first
  | exact dn c1
  | (
   have d1 := c1;try simp at d1
   refine wa_ (wc_region (w_ (a_ (h:=wo_nil (e_ (h:=aft_normal (wc_ret (?_))))))))
   )
 all_goals first
 | refine aft_ret ?_
 | (
  refine aft_normal ?_
  refine wa_ (wa_ (wc_region (w_ (a_ (h:=wo_nil (e_ (h:=aft_normal (wc_block (?_)))))))))
  refine wc_loopI (l_setS z hz (by omega) 0 (by omega) _ (by simp [normE])) ?_ ?_
  rotate_right 1
  focus
   intro c2
   first
   | exact dn c2
   | (
    have d2 := c2;try simp at d2
    skip
    )
  rotate_right 1
  focus
   intro c2
   first
   | exact dn c2
   | (
    have d2 := c2;try simp at d2
    skip
    )
  all_goals first | refine blk_ret ?_ | refine blk_exit ?_
  all_goals first
  | refine aft_ret ?_
  | (
   refine aft_normal ?_
   refine wa_ (wc_region (w_ (a_ (h:=wo_nil (e_ (h:=aft_normal (wc_ret (?_))))))))
   )
  )
 all_goals (refine fin_ (hr:=(res_tmp rfl res_nil)) (h:=?_);(focus (simp [setC,prevG] at * <;> grind)))
def mkI (k : Int) (n : Nat) : List Int := (List.range n).map fun (i : Nat) => k + i
@[simp] theorem mkI_len {k : Int} {n : Nat} : (mkI k n).length = n := by simp [mkI]
theorem alikeL_map {α : Type} {f g : α → V} (hf : ∀ x y,(f x).alike (g y) = true) : ∀ {a b : List α},V.alikeL (a.map f) (b.map g) = decide (a.length = b.length)
  | [],[] => rfl
  | [],_ :: _ => by simp [V.alikeL]
  | _ :: _,[] => by simp [V.alikeL]
  | x :: a,y :: b => by simp only [List.map_cons,V.alikeL,hf,Bool.true_and,alikeL_map hf (a:=a) (b:=b),List.length_cons,Nat.add_right_cancel_iff]
@[simp] theorem alike_ints (a b : List Int) : V.alikeL (ints a) (ints b) = decide (a.length = b.length) := alikeL_map (fun _ _ => rfl)
def cn_Ct (x : Ct) : Nat := 1 + 1 + 1
def cn_Cts (l : List Ct) : Nat := wS cn_Ct l
def mk_Ct (k : Int) (x : Ct) : Ct := ⟨k,k + 1,k + 1 + 1⟩
@[simp] theorem mk_Ct_pl (k : Int) (x : Ct) : (mk_Ct k x).pl = k := rfl
@[simp] theorem mk_Ct_ep (k : Int) (x : Ct) : (mk_Ct k x).ep = k + 1 := rfl
@[simp] theorem mk_Ct_n (k : Int) (x : Ct) : (mk_Ct k x).n = k + 1 + 1 := rfl
def mk_Cts (k : Int) : List Ct → List Ct
  | [] => []
  | x :: r => mk_Ct k x :: mk_Cts (k + (cn_Ct x : Nat)) r
@[simp] theorem mk_Cts_len {k : Int} {l : List Ct} : (mk_Cts k l).length = l.length := by
  induction l generalizing k with
  | nil => rfl
  | cons x r ih => simp [mk_Cts,ih]
@[simp] theorem mk_Cts_take {k : Int} {l : List Ct} : (mk_Cts k l).take l.length = mk_Cts k l := List.take_of_length_le (by simp)
@[simp] theorem alike_cts (a b : List Ct) : V.alikeL (cts a) (cts b) = decide (a.length = b.length) := alikeL_map (fun _ _ => rfl)
def cn_Nd (x : Nd) : Nat := 1 + 1 + 1 + 1 + 1 + 1 + x.cells.length
def mk_Nd (k : Int) (x : Nd) : Nd := ⟨k,k + 1,k + 1 + 1,k + 1 + 1 + 1,k + 1 + 1 + 1 + 1,k + 1 + 1 + 1 + 1 + 1,mkI (k + 1 + 1 + 1 + 1 + 1 + 1) x.cells.length⟩
@[simp] theorem mk_Nd_op (k : Int) (x : Nd) : (mk_Nd k x).op = k := rfl
@[simp] theorem mk_Nd_a (k : Int) (x : Nd) : (mk_Nd k x).a = k + 1 := rfl
@[simp] theorem mk_Nd_b (k : Int) (x : Nd) : (mk_Nd k x).b = k + 1 + 1 := rfl
@[simp] theorem mk_Nd_col (k : Int) (x : Nd) : (mk_Nd k x).col = k + 1 + 1 + 1 := rfl
@[simp] theorem mk_Nd_test (k : Int) (x : Nd) : (mk_Nd k x).test = k + 1 + 1 + 1 + 1 := rfl
@[simp] theorem mk_Nd_value (k : Int) (x : Nd) : (mk_Nd k x).value = k + 1 + 1 + 1 + 1 + 1 := rfl
@[simp] theorem mk_Nd_cells (k : Int) (x : Nd) : (mk_Nd k x).cells = mkI (k + 1 + 1 + 1 + 1 + 1 + 1) x.cells.length := rfl
def mk_Nds (k : Int) : List Nd → List Nd
  | [] => []
  | x :: r => mk_Nd k x :: mk_Nds (k + (cn_Nd x : Nat)) r
@[simp] theorem mk_Nds_len {k : Int} {l : List Nd} : (mk_Nds k l).length = l.length := by
  induction l generalizing k with
  | nil => rfl
  | cons x r ih => simp [mk_Nds,ih]
@[simp] theorem mk_Nds_take {k : Int} {l : List Nd} : (mk_Nds k l).take l.length = mk_Nds k l := List.take_of_length_le (by simp)
@[simp] theorem alike_nds (t u : Bool) (s z : Nat) (a b : List Nd) : V.alikeL (nds t s a) (nds u z b) = decide (a.length = b.length) := alikeL_map (fun _ _ => rfl)
def cn_Et (x : Et) : Nat := x.row.length + 1
def cn_Ets (l : List Et) : Nat := wS cn_Et l
def mk_Et (k : Int) (x : Et) : Et := ⟨mkI (k) x.row.length,k + (x.row.length : Nat)⟩
@[simp] theorem mk_Et_row (k : Int) (x : Et) : (mk_Et k x).row = mkI (k) x.row.length := rfl
@[simp] theorem mk_Et_w (k : Int) (x : Et) : (mk_Et k x).w = k + (x.row.length : Nat) := rfl
def mk_Ets (k : Int) : List Et → List Et
  | [] => []
  | x :: r => mk_Et k x :: mk_Ets (k + (cn_Et x : Nat)) r
@[simp] theorem mk_Ets_len {k : Int} {l : List Et} : (mk_Ets k l).length = l.length := by
  induction l generalizing k with
  | nil => rfl
  | cons x r ih => simp [mk_Ets,ih]
@[simp] theorem mk_Ets_take {k : Int} {l : List Et} : (mk_Ets k l).take l.length = mk_Ets k l := List.take_of_length_le (by simp)
@[simp] theorem alike_ets (t u : Bool) (a b : List Et) : V.alikeL (ets t a) (ets u b) = decide (a.length = b.length) := alikeL_map (fun _ _ => rfl)
def cn_Fr (x : Fr) : Nat := 1 + 1 + 1 + 1 + cn_Ets x.set + cn_Cts x.news
def cn_Frs (l : List Fr) : Nat := wS cn_Fr l
def mk_Fr (k : Int) (x : Fr) : Fr := ⟨k,k + 1,k + 1 + 1,k + 1 + 1 + 1,mk_Ets (k + 1 + 1 + 1 + 1) x.set,mk_Cts (k + 1 + 1 + 1 + 1 + (cn_Ets x.set : Nat)) x.news⟩
@[simp] theorem mk_Fr_kind (k : Int) (x : Fr) : (mk_Fr k x).kind = k := rfl
@[simp] theorem mk_Fr_node (k : Int) (x : Fr) : (mk_Fr k x).node = k + 1 := rfl
@[simp] theorem mk_Fr_side (k : Int) (x : Fr) : (mk_Fr k x).side = k + 1 + 1 := rfl
@[simp] theorem mk_Fr_ep (k : Int) (x : Fr) : (mk_Fr k x).ep = k + 1 + 1 + 1 := rfl
@[simp] theorem mk_Fr_set (k : Int) (x : Fr) : (mk_Fr k x).set = mk_Ets (k + 1 + 1 + 1 + 1) x.set := rfl
@[simp] theorem mk_Fr_news (k : Int) (x : Fr) : (mk_Fr k x).news = mk_Cts (k + 1 + 1 + 1 + 1 + (cn_Ets x.set : Nat)) x.news := rfl
def mk_Frs (k : Int) : List Fr → List Fr
  | [] => []
  | x :: r => mk_Fr k x :: mk_Frs (k + (cn_Fr x : Nat)) r
@[simp] theorem mk_Frs_len {k : Int} {l : List Fr} : (mk_Frs k l).length = l.length := by
  induction l generalizing k with
  | nil => rfl
  | cons x r ih => simp [mk_Frs,ih]
@[simp] theorem mk_Frs_take {k : Int} {l : List Fr} : (mk_Frs k l).take l.length = mk_Frs k l := List.take_of_length_le (by simp)
@[simp] theorem alike_frs (t u : Bool) (a b : List Fr) : V.alikeL (frs t a) (frs u b) = decide (a.length = b.length) := alikeL_map (fun _ _ => rfl)
def cn_Bt (x : Bt) : Nat := 1 + 1 + cn_Ets x.set
def cn_Bts (l : List Bt) : Nat := wS cn_Bt l
def mk_Bt (k : Int) (x : Bt) : Bt := ⟨k,k + 1,mk_Ets (k + 1 + 1) x.set⟩
@[simp] theorem mk_Bt_side (k : Int) (x : Bt) : (mk_Bt k x).side = k := rfl
@[simp] theorem mk_Bt_ep (k : Int) (x : Bt) : (mk_Bt k x).ep = k + 1 := rfl
@[simp] theorem mk_Bt_set (k : Int) (x : Bt) : (mk_Bt k x).set = mk_Ets (k + 1 + 1) x.set := rfl
def mk_Bts (k : Int) : List Bt → List Bt
  | [] => []
  | x :: r => mk_Bt k x :: mk_Bts (k + (cn_Bt x : Nat)) r
@[simp] theorem mk_Bts_len {k : Int} {l : List Bt} : (mk_Bts k l).length = l.length := by
  induction l generalizing k with
  | nil => rfl
  | cons x r ih => simp [mk_Bts,ih]
@[simp] theorem mk_Bts_take {k : Int} {l : List Bt} : (mk_Bts k l).take l.length = mk_Bts k l := List.take_of_length_le (by simp)
@[simp] theorem alike_bts (t u : Bool) (a b : List Bt) : V.alikeL (bts t a) (bts u b) = decide (a.length = b.length) := alikeL_map (fun _ _ => rfl)
def cn_Hd (x : Hd) : Nat := cn_Ets x.oldA + cn_Ets x.oldB + cn_Bts x.waits + 1
def cn_Hds (l : List Hd) : Nat := wS cn_Hd l
def mk_Hd (k : Int) (x : Hd) : Hd := ⟨mk_Ets (k) x.oldA,mk_Ets (k + (cn_Ets x.oldA : Nat)) x.oldB,mk_Bts (k + (cn_Ets x.oldA : Nat) + (cn_Ets x.oldB : Nat)) x.waits,k + (cn_Ets x.oldA : Nat) + (cn_Ets x.oldB : Nat) + (cn_Bts x.waits : Nat)⟩
@[simp] theorem mk_Hd_oldA (k : Int) (x : Hd) : (mk_Hd k x).oldA = mk_Ets (k) x.oldA := rfl
@[simp] theorem mk_Hd_oldB (k : Int) (x : Hd) : (mk_Hd k x).oldB = mk_Ets (k + (cn_Ets x.oldA : Nat)) x.oldB := rfl
@[simp] theorem mk_Hd_waits (k : Int) (x : Hd) : (mk_Hd k x).waits = mk_Bts (k + (cn_Ets x.oldA : Nat) + (cn_Ets x.oldB : Nat)) x.waits := rfl
@[simp] theorem mk_Hd_told (k : Int) (x : Hd) : (mk_Hd k x).told = k + (cn_Ets x.oldA : Nat) + (cn_Ets x.oldB : Nat) + (cn_Bts x.waits : Nat) := rfl
def mk_Hds (k : Int) : List Hd → List Hd
  | [] => []
  | x :: r => mk_Hd k x :: mk_Hds (k + (cn_Hd x : Nat)) r
@[simp] theorem mk_Hds_len {k : Int} {l : List Hd} : (mk_Hds k l).length = l.length := by
  induction l generalizing k with
  | nil => rfl
  | cons x r ih => simp [mk_Hds,ih]
@[simp] theorem mk_Hds_take {k : Int} {l : List Hd} : (mk_Hds k l).take l.length = mk_Hds k l := List.take_of_length_le (by simp)
@[simp] theorem alike_hds (t u : Bool) (a b : List Hd) : V.alikeL (hds t a) (hds u b) = decide (a.length = b.length) := alikeL_map (fun _ _ => rfl)
def cn_Rl (x : Rl) : Nat := 1 + 1 + cn_Ets x.set
def cn_Rls (l : List Rl) : Nat := wS cn_Rl l
def mk_Rl (k : Int) (x : Rl) : Rl := ⟨k,k + 1,mk_Ets (k + 1 + 1) x.set⟩
@[simp] theorem mk_Rl_node (k : Int) (x : Rl) : (mk_Rl k x).node = k := rfl
@[simp] theorem mk_Rl_ep (k : Int) (x : Rl) : (mk_Rl k x).ep = k + 1 := rfl
@[simp] theorem mk_Rl_set (k : Int) (x : Rl) : (mk_Rl k x).set = mk_Ets (k + 1 + 1) x.set := rfl
def mk_Rls (k : Int) : List Rl → List Rl
  | [] => []
  | x :: r => mk_Rl k x :: mk_Rls (k + (cn_Rl x : Nat)) r
@[simp] theorem mk_Rls_len {k : Int} {l : List Rl} : (mk_Rls k l).length = l.length := by
  induction l generalizing k with
  | nil => rfl
  | cons x r ih => simp [mk_Rls,ih]
@[simp] theorem mk_Rls_take {k : Int} {l : List Rl} : (mk_Rls k l).take l.length = mk_Rls k l := List.take_of_length_le (by simp)
@[simp] theorem alike_rls (t u : Bool) (a b : List Rl) : V.alikeL (rls t a) (rls u b) = decide (a.length = b.length) := alikeL_map (fun _ _ => rfl)
def cn_Wk (x : Wk) : Nat := cn_Frs x.inbox + cn_Cts x.counts + cn_Hds x.nodes + 1 + 1 + cn_Rls x.outs + 1
def mk_Wk (k : Int) (x : Wk) : Wk := ⟨mk_Frs (k) x.inbox,mk_Cts (k + (cn_Frs x.inbox : Nat)) x.counts,mk_Hds (k + (cn_Frs x.inbox : Nat) + (cn_Cts x.counts : Nat)) x.nodes,k + (cn_Frs x.inbox : Nat) + (cn_Cts x.counts : Nat) + (cn_Hds x.nodes : Nat),k + (cn_Frs x.inbox : Nat) + (cn_Cts x.counts : Nat) + (cn_Hds x.nodes : Nat) + 1,mk_Rls (k + (cn_Frs x.inbox : Nat) + (cn_Cts x.counts : Nat) + (cn_Hds x.nodes : Nat) + 1 + 1) x.outs,decide ((k + (cn_Frs x.inbox : Nat) + (cn_Cts x.counts : Nat) + (cn_Hds x.nodes : Nat) + 1 + 1 + (cn_Rls x.outs : Nat)).tmod 3 = 0)⟩
@[simp] theorem mk_Wk_inbox (k : Int) (x : Wk) : (mk_Wk k x).inbox = mk_Frs (k) x.inbox := rfl
@[simp] theorem mk_Wk_counts (k : Int) (x : Wk) : (mk_Wk k x).counts = mk_Cts (k + (cn_Frs x.inbox : Nat)) x.counts := rfl
@[simp] theorem mk_Wk_nodes (k : Int) (x : Wk) : (mk_Wk k x).nodes = mk_Hds (k + (cn_Frs x.inbox : Nat) + (cn_Cts x.counts : Nat)) x.nodes := rfl
@[simp] theorem mk_Wk_ep (k : Int) (x : Wk) : (mk_Wk k x).ep = k + (cn_Frs x.inbox : Nat) + (cn_Cts x.counts : Nat) + (cn_Hds x.nodes : Nat) := rfl
@[simp] theorem mk_Wk_top (k : Int) (x : Wk) : (mk_Wk k x).top = k + (cn_Frs x.inbox : Nat) + (cn_Cts x.counts : Nat) + (cn_Hds x.nodes : Nat) + 1 := rfl
@[simp] theorem mk_Wk_outs (k : Int) (x : Wk) : (mk_Wk k x).outs = mk_Rls (k + (cn_Frs x.inbox : Nat) + (cn_Cts x.counts : Nat) + (cn_Hds x.nodes : Nat) + 1 + 1) x.outs := rfl
@[simp] theorem mk_Wk_bad (k : Int) (x : Wk) : (mk_Wk k x).bad = decide ((k + (cn_Frs x.inbox : Nat) + (cn_Cts x.counts : Nat) + (cn_Hds x.nodes : Nat) + 1 + 1 + (cn_Rls x.outs : Nat)).tmod 3 = 0) := rfl
def mk_Wks (k : Int) : List Wk → List Wk
  | [] => []
  | x :: r => mk_Wk k x :: mk_Wks (k + (cn_Wk x : Nat)) r
@[simp] theorem mk_Wks_len {k : Int} {l : List Wk} : (mk_Wks k l).length = l.length := by
  induction l generalizing k with
  | nil => rfl
  | cons x r ih => simp [mk_Wks,ih]
@[simp] theorem mk_Wks_take {k : Int} {l : List Wk} : (mk_Wks k l).take l.length = mk_Wks k l := List.take_of_length_le (by simp)
@[simp] theorem alike_wks (t u : Bool) (a b : List Wk) : V.alikeL (wks t a) (wks u b) = decide (a.length = b.length) := alikeL_map (fun _ _ => rfl)
end Go.Proofs.Ytgkbmiaimjpbfaa.Ev
namespace Go.Proofs.Ytgkbmiaimjpbfaa.Ev
open Go
set_option maxRecDepth 100000
set_option linter.unusedSimpArgs false
set_option linter.unusedVariables false
set_option maxHeartbeats 2000000
def mk_Etss (k : Int) : List (List Et) → List (List Et)
  | [] => []
  | x :: r => mk_Ets k x :: mk_Etss (k + (cn_Ets x : Nat)) r
@[simp] theorem mk_Etss_len {k : Int} {l : List (List Et)} : (mk_Etss k l).length = l.length := by
  induction l generalizing k with
  | nil => rfl
  | cons x r ih => simp [mk_Etss,ih]
@[simp] theorem mk_Etss_take {k : Int} {l : List (List Et)} : (mk_Etss k l).take l.length = mk_Etss k l := List.take_of_length_le (by simp)
section
variable {call : Call} {id base : Nat} {e : List (Nat × V)} {o : List (Nat × Ob)} {n : Nat} {t : TypeId} {K : V → List (Nat × Ob) → Prop}
theorem apP {args : Array Operand} {ts : Array TypeId} {t1 t2 e1 e2 : TypeId} {y z : V} {ys ws bs : List V} {r1 : Option (List V × St)} {sz : Nat} {o1 : List (Nat × Ob)} {id' q j ver m m2 : Nat} {fs : List Nat} {ob : Ob} {x xu : V} (hx : opsV e args.toList = some [.plc q j fs ver m,y] := by exact rfl) (h1 : ts[0]? = some t1 := by exact rfl) (h2 : ts[1]? = some t2 := by exact rfl) (he1 : cf.elem t1 = some e1 := by exact tys_ok.elem _ _ rfl) (hz : cf.zero e1 = some z := by exact tys_ok.zero _ _ rfl) (he2 : cf.elem t2 = some e2 := by exact tys_ok.elem _ _ rfl)
    (hel : St.elems ⟨[],o,n⟩ base y = r1 := by (simp;rfl)) (hel2 : r1 = some (ys,⟨[],o1,n⟩) := by rfl) (ho : geta o1 q = some ob := by exact rfl) (hv : ob.ver = ver := by rfl) (hg : ob.xs[j]? = some x := by first | assumption | exact set_at (by assumption)) (hgf : getF x fs = some (.lst true sz bs) := by exact rfl) (hl : bs.length = m := by first | rfl | simp) (hsu : setF x fs .und = some xu := by exact rfl)
    (hid : id = id' := by ((try simp);rfl)) (hsz : sz = z.cells := by rfl) (hc : V.cellsAll z.cells ys = true := by (simp [*];try rfl)) (hw : bs ++ ys = ws := by ((try simp);rfl)) (hm : ws.length = m2 := by ((try simp);rfl)) (hlen : m2 < maxV := by (simp <;> omega))
    (h : K (.ref id' 0 m2) ((id',⟨false,false,z.cells,ws,0⟩) :: (q,⟨ob.bx,ob.fx,ob.sz,ob.xs.set j xu,ver + 1⟩) :: o1)) : opK call cf id base e o n t (.call ⟨.builtin .append,args,ts⟩) K := by
  subst hl hv
  have hget : ob.get j fs = some (.lst true sz bs) := by simp only [Ob.get,hg,hgf]
  have hset : ob.set j fs .und = some { ob with xs := ob.xs.set j xu } := by simp only [Ob.set,hg,hsu,mp_some]
  have hat : St.at ⟨[],o1,n⟩ q j fs ob.ver bs.length = some (sz,bs,ob) := by simp only [St.at,ho,hget,if_true]
  have htk : St.take ⟨[],o1,n⟩ q j fs ob.ver bs.length = some (sz,bs,⟨[],(q,⟨ob.bx,ob.fx,ob.sz,ob.xs.set j xu,ob.ver + 1⟩) :: o1,n⟩) := by simp only [St.take,hat,hset,mp_some,puta]
  exact k_appendS hx h1 h2 he1 hz he2 hel hel2 htk rfl hid hsz hc hw hm hlen h
end
end Go.Proofs.Ytgkbmiaimjpbfaa.Ev
namespace Go.Proofs.Ytgkbmiaimjpbfaa.Ev
open Go
set_option maxRecDepth 100000
set_option linter.unusedSimpArgs false
set_option linter.unusedVariables false
set_option maxHeartbeats 2000000
def idxE (p : Et → Bool) (i : Nat) : List (Et) → Int
  | [] => -1
  | x :: r => if p x = true then i else idxE p (i + 1) r
theorem idxE_any {p : Et → Bool} : ∀ {l : List (Et)} {i : Nat},decide (0 ≤ idxE p i l) = l.any p
  | [],i => by simp [idxE]
  | x :: r,i => by
    unfold idxE
    by_cases h : p x = true
    · simp [h]
    · simp only [if_neg h,List.any_cons,idxE_any (l:=r) (i:=i + 1)];simp [h]
theorem l_ix_Long (l : List (Et)) (k : Int) (p : Et → Bool) (hl : l.length < 2000000) (hc : ∀ x ∈ l,oc.call 154 [x.v false,.vptr (.int .i64 k)] = some (.bool (p x),[])) : ∀ i : Nat,i ≤ l.length → ∀ s,normE 2 (some [0,1,7,8]) s = ⟨[(0,.lst false 0 (ets false l)),(1,.clo 154 [.vptr (.int .i64 k)]),(7,.int .i64 l.length),(8,.int .i64 i)],[],2⟩ →
 oc.loop 221 2 s = some (if 0 ≤ idxE p i (l.drop i) then (.ret,⟨[(4,.int .i64 (idxE p i (l.drop i)))],[],2⟩) else (.exit 0,⟨[],[],2⟩)) := by
 refine loop_ind (fun i => l.length - i) _ (fun i => ⟨[(0,.lst false 0 (ets false l)),(1,.clo 154 [.vptr (.int .i64 k)]),(7,.int .i64 l.length),(8,.int .i64 i)],[],2⟩) _ ?_
 intro i hi ih s hs
 refine loop_s cd221 rfl rfl hs ?_
 refine wa_ (wc_region (w_ (b_ (h:=wo_nil (e_ (h:=aft_normal (wa_ (?_))))))))
 refine c_ (h1:=?_) (h2:=?_)
 rotate_right 1
 focus
  intro c1
  first
  | exact dn c1
  | (
   have d1 := c1;try simp at d1
   refine wc_exit (?_)
   )
 rotate_right 1
 focus
  intro c1
  first
  | exact dn c1
  | (
   have d1 := c1;try simp at d1
   have hw := wrap_succ (i:=i) (by omega);obtain ⟨x,hx,e1,g1⟩ := ets_cut (t:=false) (l:=l) (i:=i) (by omega);have hq := hc x (List.mem_of_getElem? hx)
   refine wc_skip (?_)
   )
 all_goals first
 | refine aft_exit ?_
 | (
  refine aft_normal ?_
  refine wa_ (wc_block (wa_ (wc_region (w_ (m_ (h:=w_ (a_ (h:=wo_nil (e_ (h:=aft_normal (wa_ (wc_region (w_ (m_ (h:=w_ (m_ (h:=?_)))))))))))))))))
  refine w_ (m_ (h:=w_ (x_ (h:=w_ (l_ (h:=w_ (?_)))))))
  refine k_callS rfl rfl (by rw [cf_in];rfl) rfl (by rw [cf_md];rfl) (by simp [cf_md,mdT];rfl) (by first | rfl | simp [*]) hq rfl (by simp;rfl) (by simp [cf_md,mdT]) (by simp;rfl) (by simp;rfl) ?_
  refine wo_nil (e_ (h:=aft_normal (?_)))
  refine c_ (h1:=?_) (h2:=?_)
  rotate_right 1
  focus
   intro c2
   first
   | exact dn c2
   | (
    have d2 := c2;try simp at d2
    refine wc_skip (?_)
    )
  rotate_right 1
  focus
   intro c2
   first
   | exact dn c2
   | (
    have d2 := c2;try simp at d2
    refine wa_ (wc_region (w_ (m_ (h:=w_ (a_ (h:=wo_nil (e_ (h:=aft_normal (wc_ret (?_))))))))))
    )
  all_goals first | refine blk_normal ?_ | refine blk_ret ?_
  all_goals first
  | refine aft_ret ?_
  | (
   refine aft_normal ?_
   refine wc_region (w_ (b_ (h:=w_ (m_ (h:=wo_nil (e_ (h:=?_)))))))
   )
  )
 all_goals first
 | (refine (ih (i + 1) (by omega) ?_ _ ?_).trans ?_;(focus (first | omega | (simp;done) | (simp;omega)));(focus (simp [normE,hw];done));(focus (rw [e1];simp only [idxE,if_neg (show ¬ p x = true by simp [d2])])))
 | (apply end_leaf (ex:=Ext.ret) 2 (some [4]);(focus (simp [normE];rfl));(focus (rw [e1];simp [idxE,d2])))
 | (apply end_leaf (ex:=(Ext.exit 0)) 2 (some [4]);(focus (simp [normE];rfl));(focus (rw [List.drop_eq_nil_of_le (by omega)];simp [idxE])))
theorem e_ix_Long (l : List (Et)) (k : Int) (p : Et → Bool) (hl : l.length < 2000000) (hc : ∀ x ∈ l,oc.call 154 [x.v false,.vptr (.int .i64 k)] = some (.bool (p x),[])) : oc.call 221 [.lst false 0 (ets false l),.clo 154 [.vptr (.int .i64 k)]] = some (.int .i64 (if 0 ≤ idxE p 0 l then idxE p 0 l else -1),[]) := by
 refine fun_s rfl cd221 rfl rfl rfl (by simp;rfl) (by simp;rfl) ?_
 refine wa_ (wc_region (w_ (a_ (h:=wo_nil (e_ (h:=aft_normal (wa_ (wa_ (wc_region (w_ (m_ (h:=w_ (le (h:=w_ (m_ (h:=wo_nil (e_ (h:=?_))))))))))))))))))
 refine aft_normal (wc_block (?_))
 refine wc_loopI (l_ix_Long l k p hl hc 0 (by omega) _ (by simp [normE])) ?_ ?_
 rotate_right 1
 focus
  intro c1
  skip
 rotate_right 1
 focus
  intro c1
  skip
 all_goals first | refine blk_ret ?_ | refine blk_exit ?_
 all_goals first
 | refine aft_ret ?_
 | (
  refine aft_normal ?_
  refine wa_ (wc_region (w_ (a_ (h:=wo_nil (e_ (h:=aft_normal (wc_ret (?_))))))))
  )
 all_goals (refine fin_ (hr:=(res_tmp rfl res_nil)) (h:=?_);(focus (clear hc;first | (simp_all;done) | (simp_all <;> omega))))
theorem e_any_Long (l : List (Et)) (k : Int) (p : Et → Bool) (hl : l.length < 2000000) (hc : ∀ x ∈ l,oc.call 154 [x.v false,.vptr (.int .i64 k)] = some (.bool (p x),[])) : oc.call 153 [.lst false 0 (ets false l),.clo 154 [.vptr (.int .i64 k)]] = some (.bool (l.any p),[]) := by
 refine fun_s rfl cd153 rfl rfl rfl (by simp;rfl) (by simp;rfl) ?_
 refine wa_ (wc_region (w_ (a_ (h:=wo_nil (e_ (h:=aft_normal (wa_ (wc_region (w_ (m_ (h:=w_ (m_ (h:=w_ (ca (hc:=e_ix_Long l k p hl hc) (h:=w_ (b_ (h:=w_ (a_ (h:=?_)))))))))))))))))))
 refine wo_nil (e_ (h:=aft_normal (wc_ret (?_))))
 all_goals (refine fin_ (hr:=(res_tmp rfl res_nil)) (h:=?_);(focus (clear hc;rw [← idxE_any (i:=0)];simp;grind)))
def longE (z : List Et) (k : Int) : Bool := z.any fun e => decide ((e.row.length : Int) < k)
theorem longE_cons {c : Et} {r : List Et} {k : Int} : longE (c :: r) k = (decide ((c.row.length : Int) < k) || longE r k) := by simp [longE]
theorem e_long1 (e : Et) (k : Int) (he : e.row.length < 2000000) : oc.call 154 [e.v false,.vptr (.int .i64 k)] = some (.bool (decide ((e.row.length : Int) < k)),[]) := by
 refine fun_s rfl cd154 rfl rfl rfl (by simp;rfl) (by simp;rfl) ?_
 refine wa_ (wc_region (w_ (bx (h:=w_ (a_ (h:=wo_nil (e_ (h:=aft_normal (wa_ (wc_draw (y_ (f_ (h:=ax_ (h:=y_ (l_ (h:=ax_ (h:=y_ (ca (hc:=e_size 0 (ints e.row) (by simp;omega)) (h:=ax_ (h:=y_ (l_ (h:=ax_ (h:=?_)))))))))))))))))))))))
 refine y_ (b_ (h:=ax_ (h:=y_ (a_ (h:=ax_ (h:=wo_nil (ed (h:=aft_normal (wc_ret (?_))))))))))
 all_goals (refine fin_ (hr:=(res_tmp rfl res_nil)) (h:=?_);(focus (first | (simp_all;done) | (simp_all <;> omega) | (simp_all <;> split <;> simp_all <;> omega))))
theorem row_in {z : List Et} (hz : w_Ets z < 2000000) {e : Et} (h : e ∈ z) : e.row.length < 2000000 := by
  have := w_Ets_mem h;unfold w_Et at this;omega
theorem e_long (z : List Et) (k : Int) (hz : w_Ets z < 2000000) : oc.call 77 [.lst false 0 (ets false z),.int .i64 k] = some (.bool (!longE z k),[]) := by
 refine fun_s rfl cd77 rfl rfl rfl (by simp;rfl) (by simp;rfl) ?_
 refine wa_ (wc_region (w_ (bx (h:=w_ (a_ (h:=wo_nil (e_ (h:=aft_normal (wa_ (wc_region (w_ (m_ (h:=w_ (mf (h:=w_ (ca (hc:=e_any_Long z k (fun e => decide ((e.row.length : Int) < k)) (by have := w_Ets_len (l:=z);omega) (fun e he => e_long1 e k (row_in hz he))) (h:=w_ (u_ (h:=?_)))))))))))))))))))
 refine w_ (a_ (h:=wo_nil (e_ (h:=aft_normal (wc_ret (?_))))))
 all_goals (refine fin_ (hr:=(res_tmp rfl res_nil)) (h:=?_);(focus (simp [longE])))
theorem l_short (z : List Et) (k : Int) (hz : w_Ets z < 2000000) : ∀ i : Nat,(i ≤ z.length) → ∀ s,normE 2 (some [0,1,5]) s = ⟨[(0,.lst false 0 (ets false z)),(1,.int .i64 k),(5,.int .i64 i)],[],2⟩ →
 oc.loop 71 2 s = some (if longE (z.drop i) k = true then (.ret,⟨[(4,.bool true)],[],2⟩) else (.exit 0,⟨[],[],2⟩)) := by
 refine loop_ind (σ:=Nat) (fun i => z.length - i) _ (fun i => ⟨[(0,.lst false 0 (ets false z)),(1,.int .i64 k),(5,.int .i64 i)],[],2⟩) _ ?_
 intro i hi ih s hs
 refine loop_s cd71 rfl rfl hs ?_
 have hzl := w_Ets_len (l:=z)
 refine wa_ (wa_ (wc_region (w_ (m_ (h:=w_ (m_ (h:=w_ (le (h:=w_ (b_ (h:=wo_nil (e_ (h:=aft_normal (?_))))))))))))))
 refine c_ (h1:=?_) (h2:=?_)
 rotate_right 1
 focus
  intro c1
  first
  | exact dn c1
  | (
   have d1 := c1;try simp at d1
   refine wc_exit (?_)
   )
 rotate_right 1
 focus
  intro c1
  first
  | exact dn c1
  | (
   have d1 := c1;try simp at d1
   have hw := wrap_succ (i:=i) (by omega);obtain ⟨c,hx,e1,g1⟩ := ets_cut (t:=false) (l:=z) (i:=i) (by omega)
   refine wc_skip (?_)
   )
 all_goals first
 | refine aft_exit ?_
 | (
  refine aft_normal ?_
  refine wa_ (wc_block (wa_ (wc_region (w_ (m_ (h:=w_ (m_ (h:=w_ (x_ (h:=w_ (f_ (h:=w_ (l_ (h:=w_ (le (h:=w_ (m_ (h:=w_ (b_ (h:=?_))))))))))))))))))))
  refine wo_nil (e_ (h:=aft_normal (?_)))
  refine c_ (h1:=?_) (h2:=?_)
  rotate_right 1
  focus
   intro c2
   first
   | exact dn c2
   | (
    have d2 := c2;try simp at d2
    refine wc_skip (?_)
    )
  rotate_right 1
  focus
   intro c2
   first
   | exact dn c2
   | (
    have d2 := c2;try simp at d2
    refine wa_ (wc_region (w_ (a_ (h:=wo_nil (e_ (h:=aft_normal (wc_ret (?_))))))))
    )
  all_goals first | refine blk_normal ?_ | refine blk_ret ?_
  all_goals first
  | refine aft_ret ?_
  | (
   refine aft_normal ?_
   refine wc_region (w_ (m_ (h:=w_ (b_ (h:=w_ (a_ (h:=wo_nil (e_ (h:=?_)))))))))
   )
  )
 all_goals first
 | (refine (ih (i + 1) (by omega) ?_ _ ?_).trans ?_;(focus (first | omega | (simp;done) | (simp;omega)));(focus (simp [normE,hw];done));(focus (rw [e1,longE_cons,decide_eq_false (by omega)];simp)))
 | (apply end_leaf (ex:=Ext.ret) 2 (some [4]);(focus (simp [normE];rfl));(focus (rw [e1,longE_cons,decide_eq_true (by omega)];simp)))
 | (apply end_leaf (ex:=(Ext.exit 0)) 2 (some [4]);(focus (simp [normE];rfl));(focus (rw [List.drop_eq_nil_of_le (by omega)];simp [longE])))
theorem e_short (z : List Et) (k : Int) (hz : w_Ets z < 2000000) : oc.call 71 [.lst false 0 (ets false z),.int .i64 k] = some (.bool (longE z k),[]) := by
 refine fun_s rfl cd71 rfl rfl rfl (by simp;rfl) (by simp;rfl) ?_
 refine wa_ (wc_region (w_ (a_ (h:=wo_nil (e_ (h:=aft_normal (wa_ (wa_ (wc_region (w_ (a_ (h:=wo_nil (e_ (h:=aft_normal (wc_block (?_))))))))))))))))
 refine wc_loopI (l_short z k hz 0 (by omega) _ (by simp [normE])) ?_ ?_
 rotate_right 1
 focus
  intro c1
  skip
 rotate_right 1
 focus
  intro c1
  skip
 all_goals first | refine blk_ret ?_ | refine blk_exit ?_
 all_goals first
 | refine aft_ret ?_
 | (
  refine aft_normal ?_
  refine wa_ (wc_region (w_ (a_ (h:=wo_nil (e_ (h:=aft_normal (wc_ret (?_))))))))
  )
 all_goals (refine fin_ (hr:=(res_tmp rfl res_nil)) (h:=?_);(focus (simp_all)))
def partsN (f : List Int → Int) (m : Nat) (z : List Et) : List (List Et) := (List.range m).map fun (k : Nat) => z.filter fun e => decide (f e.row = (k : Int))
@[simp] theorem partsN_len {f : List Int → Int} {m : Nat} {z : List Et} : (partsN f m z).length = m := by simp [partsN]
@[simp] theorem partsN_take {f : List Int → Int} {m : Nat} {z : List Et} : (partsN f m z).take m = partsN f m z := List.take_of_length_le (by simp)
theorem partsN_nil {f : List Int → Int} {m : Nat} : partsN f m [] = List.replicate m [] := by
  apply List.ext_getElem <;> simp [partsN]
theorem partsN_snoc {f : List Int → Int} {m : Nat} {z : List Et} {e : Et} {i : Nat} (he : z[i]? = some e) (h0 : 0 ≤ f e.row) (h1 : f e.row < m) : ∃ q,(partsN f m (z.take i))[(f e.row).toNat]? = some q ∧ q.length ≤ z.length ∧ (partsN f m (z.take i)).set (f e.row).toNat (q ++ [e]) = partsN f m (z.take (i + 1)) := by
  have hk : (f e.row).toNat < m := by omega
  refine ⟨(z.take i).filter (fun x => decide (f x.row = ((f e.row).toNat : Int))),?_,?_,?_⟩
  · simp [partsN,hk]
  · exact Nat.le_trans (List.length_filter_le _ _) (by simp;omega)
  · have ht : z.take (i + 1) = z.take i ++ [e] := by
      have hlt := (List.getElem?_eq_some_iff.1 he).1
      rw [List.take_add_one,he];rfl
    rw [ht]
    apply List.ext_getElem?
    intro n
    by_cases hn : n = (f e.row).toNat
    · subst hn
      have hto : ((f e.row).toNat : Int) = f e.row := Int.toNat_of_nonneg h0
      simp [partsN,hk,List.filter_append,hto]
    · rw [List.getElem?_set_ne (Ne.symm hn)]
      by_cases hm : n < m
      · simp [partsN,hm,List.filter_append];omega
      · simp [partsN,hm]
theorem partsN_mem {f : List Int → Int} {m : Nat} {z : List Et} {q : List Et} (h : q ∈ partsN f m z) : q.Sublist z := by
  simp only [partsN,List.mem_map] at h
  obtain ⟨k,_,rfl⟩ := h
  exact List.filter_sublist
def shf (m k : Int) (r : List Int) : Int := shardN m r k
theorem e_areW (m k : Int) : oc.call 75 [.int .i64 m,.int .i64 k] = some (.bool (inI m 1 3 && inI k 0 4),[]) := by
 refine fun_s rfl cd75 rfl rfl rfl (by simp;rfl) (by simp;rfl) ?_
 refine wa_ (wc_region (w_ (a_ (h:=wo_nil (e_ (h:=aft_normal (wa_ (wc_region (w_ (m_ (h:=w_ (ca (hc:=e_in _ _ _) (h:=w_ (m_ (h:=?_)))))))))))))))
 refine gw_ (h1:=?_) (h2:=?_)
 rotate_right 1
 focus
  intro c1
  refine go_ (h:=go_ (h:=?_))
 rotate_right 1
 focus
  intro c1
  refine g_ (h:=w_ (m_ (h:=g_ (h:=w_ (ca (hc:=e_in _ _ _) (h:=?_))))))
 all_goals
  refine w_ (pk (h:=w_ (a_ (h:=wo_nil (e_ (h:=?_))))))
 all_goals first
 | (
  refine aft_normal ?_
  refine wc_ret (?_)
  )
 all_goals (refine fin_ (hr:=(res_tmp rfl res_nil)) (h:=?_);(focus (simp at * <;> simp [*])))
theorem e_asked (m k : Int) : oc.call 69 [.int .i64 m,.int .i64 k] = some (.int .i64 (if (inI m 1 3 && inI k 0 4) = true then 0 else 3),[]) := by
 refine fun_s rfl cd69 rfl rfl rfl (by simp;rfl) (by simp;rfl) ?_
 refine wa_ (wc_region (w_ (a_ (h:=wo_nil (e_ (h:=aft_normal (wa_ (wa_ (wc_region (w_ (m_ (h:=w_ (ca (hc:=e_l1In _ _ _) (h:=w_ (u_ (h:=w_ (m_ (h:=?_))))))))))))))))))
 refine gw_ (h1:=?_) (h2:=?_)
 rotate_right 1
 focus
  intro c1
  refine go_ (h:=go_ (h:=go_ (h:=?_)))
 rotate_right 1
 focus
  intro c1
  refine g_ (h:=w_ (m_ (h:=g_ (h:=w_ (ca (hc:=e_l1In _ _ _) (h:=g_ (h:=w_ (u_ (h:=?_)))))))))
 all_goals
  refine w_ (pk (h:=wo_nil (e_ (h:=?_))))
 all_goals first
 | (
  refine aft_normal ?_
  refine c_ (h1:=?_) (h2:=?_)
  rotate_right 1
  focus
   intro c2
   refine wc_skip (?_)
  rotate_right 1
  focus
   intro c2
   refine wa_ (wc_region (w_ (a_ (h:=wo_nil (e_ (h:=aft_normal (wc_ret (?_))))))))
  )
 all_goals first
 | refine aft_ret ?_
 | (
  refine aft_normal ?_
  refine wa_ (wc_region (w_ (a_ (h:=wo_nil (e_ (h:=aft_normal (wc_ret (?_))))))))
  )
 all_goals (refine fin_ (hr:=(res_tmp rfl res_nil)) (h:=?_);(focus (simp at * <;> simp [*])))
theorem e_split1 (m k : Int) (r : List Int) (h : r.length < 2000000) (hm : m ≠ 0) (h0 : 0 ≤ k) (h1 : k ≤ r.length) : oc.call 79 [.lst false 0 (ints r),.vptr (.int .i64 m),.vptr (.int .i64 k)] = some (.int .i64 (shardN m r k),[]) := by
 refine fun_s rfl cd79 rfl rfl rfl (by simp;rfl) (by simp;rfl) ?_
 refine wa_ (wc_region (w_ (a_ (h:=wo_nil (e_ (h:=aft_normal (wa_ (wc_region (w_ (l_ (h:=w_ (m_ (h:=w_ (l_ (h:=w_ (ca (hc:=e_shardI m k r h hm h0 h1) (h:=w_ (a_ (h:=?_)))))))))))))))))))
 refine wo_nil (e_ (h:=aft_normal (wc_ret (?_))))
 all_goals (refine fin_ (hr:=(res_tmp rfl res_nil)) (h:=?_);(focus (first | (simp_all;done) | (simp_all <;> omega) | (simp_all <;> split <;> simp_all <;> omega))))
theorem longE_row {z : List Et} {k : Int} (h : longE z k = false) {e : Et} (he : e ∈ z) : k ≤ e.row.length := by
  simp [longE] at h;exact h e he
theorem l_part (z : List Et) (m : Nat) (k : Int) (hz : w_Ets z < 2000000) (hm : 0 < m) (hm2 : m < 2000000) (h0 : 0 ≤ k) (h1 : longE z k = false) : ∀ i : Nat,(i ≤ z.length) → ∀ s,normE 3 (some [2,7,13,14,15]) s = ⟨[(2,.clo 79 [.vptr (.int .i64 m),.vptr (.int .i64 k)]),(7,.ref 3 0 m),(13,.lst false 0 (ets false z)),(14,.int .i64 z.length),(15,.int .i64 i)],[(3,⟨false,false,1,etss true (partsN (shf m k) m (z.take i)),0⟩)],4⟩ →
 oc.loop 78 3 s = some (.exit 0,⟨[(7,.ref 3 0 m)],[(3,⟨false,false,1,etss true (partsN (shf m k) m z),0⟩)],4⟩) := by
 refine loop_ind (σ:=Nat) (fun i => z.length - i) _ (fun i => ⟨[(2,.clo 79 [.vptr (.int .i64 m),.vptr (.int .i64 k)]),(7,.ref 3 0 m),(13,.lst false 0 (ets false z)),(14,.int .i64 z.length),(15,.int .i64 i)],[(3,⟨false,false,1,etss true (partsN (shf m k) m (z.take i)),0⟩)],4⟩) _ ?_
 intro i hi ih s hs
 refine loop_s cd78 rfl rfl hs ?_
 have hzl := w_Ets_len (l:=z)
 refine wa_ (wc_region (w_ (b_ (h:=wo_nil (e_ (h:=aft_normal (wa_ (?_))))))))
 refine c_ (h1:=?_) (h2:=?_)
 rotate_right 1
 focus
  intro c1
  first
  | exact dn c1
  | (
   have d1 := c1;try simp at d1
   refine wc_exit (?_)
   )
 rotate_right 1
 focus
  intro c1
  first
  | exact dn c1
  | (
   have d1 := c1;try simp at d1
   have hw := wrap_succ (i:=i) (by omega);obtain ⟨c,hx,e1,g1⟩ := ets_cut (t:=false) (l:=z) (i:=i) (by omega);have hcm := List.mem_of_getElem? hx;have hcr := row_in hz hcm;have hlong := longE_row h1 hcm;have hsh := shardN_in (m:=m) (r:=c.row) (k:=k) (by omega);obtain ⟨q,hq,hql,hqs⟩ := partsN_snoc (f:=shf m k) (m:=m) hx hsh.1 hsh.2;have g2 : (etss true (partsN (shf m k) m (z.take i)))[(shardN m c.row k).toNat]? = some (.lst true 2 (ets true q)) := etss_get (t:=true) hq;change (partsN (shf m k) m (z.take i)).set (shardN m c.row k).toNat (q ++ [c]) = _ at hqs;have hqt : List.take (q.length + 1) (q ++ [({ row := c.row,w := c.w } : Et)]) = q ++ [c] := List.take_of_length_le (by simp)
   refine wc_skip (?_)
   )
 all_goals first
 | refine aft_exit ?_
 | (
  refine aft_normal ?_
  refine wa_ (wc_block (wa_ (wc_region (w_ (x_ (h:=w_ (l_ (h:=w_ (al (h:=w0 (s_ (h:=wo_nil (e_ (h:=aft_normal (wa_ (wc_region (?_)))))))))))))))))
  refine w_ (m_ (h:=w_ (f_ (h:=w_ (l_ (h:=w_ (ca (hc:=e_split1 m k c.row hcr (by omega) h0 hlong) (h:=w_ (a_ (h:=wo_nil (e_ (h:=aft_normal (wc_draw (y_ (m_ (h:=ax_ (h:=y_ (m_ (h:=ax_ (h:=y_ (m_ (h:=ax_ (h:=y_ (m_ (h:=ax_ (h:=?_))))))))))))))))))))))))))
  refine y_ (x_ (h:=ax_ (h:=y_ (l_ (h:=ax_ (h:=y_ (f_ (h:=ax_ (h:=y_ (l_ (h:=ax_ (h:=y_ (ca (hc:=e_cloneI c.row hcr) (h:=ax_ (h:=y_ (f_ (h:=ax_ (h:=y_ (l_ (h:=ax_ (h:=y_ (bd (h:=ax_ (h:=y_ (bs (h:=ax_ (h:=y_ (?_))))))))))))))))))))))))))))
  refine apP (h:=?_)
  refine ax_ (h:=y_ (x_ (h:=ax_ (h:=y0 (s_ (h:=ax_ (h:=wo_nil (ed (h:=blk_normal (aft_normal (wc_region (w_ (b_ (h:=w_ (m_ (h:=wo_nil (e_ (h:=?_))))))))))))))))))
  )
 all_goals first
 | (refine (ih (i + 1) (by omega) ?_ _ ?_).trans ?_;(focus (first | omega | (simp;done) | (simp;omega)));(focus (simp [normE,hw,hqt,hqs];done));(focus (rfl)))
 | (apply end_leaf (ex:=(Ext.exit 0)) 3 (some [7]);(focus (simp [normE];rfl));(focus (rw [List.take_of_length_le (by omega)])))
theorem e_part (z : List Et) (m : Nat) (k : Int) (hz : w_Ets z < 2000000) (hm : 0 < m) (hm2 : m < 2000000) (h0 : 0 ≤ k) (h1 : longE z k = false) : oc.call 78 [.int .i64 m,.lst false 0 (ets false z),.clo 79 [.vptr (.int .i64 m),.vptr (.int .i64 k)]] = some (.lst true 1 (etss true (partsN (shf m k) m z)),[]) := by
 refine fun_s rfl cd78 rfl rfl rfl (by simp;rfl) (by simp;rfl) ?_
 have hzl := w_Ets_len (l:=z)
 refine wa_ (wc_region (w_ (aN (h:=wo_nil (e_ (h:=aft_normal (wa_ (wc_region (w_ (m_ (h:=w_ (mk (h:=w_ (a_ (h:=wo_nil (e_ (h:=aft_normal (?_))))))))))))))))))
 refine wa_ (wa_ (wc_region (w_ (m_ (h:=w_ (le (h:=w_ (m_ (h:=wo_nil (e_ (h:=aft_normal (wc_block (?_)))))))))))))
 refine wc_loop (l_part z m k hz hm hm2 h0 h1 0 (by omega) _ (by simp [normE,partsN_nil,etss_zero])) ?_
 refine blk_exit (aft_normal (wa_ (wc_region (w_ (m_ (h:=w_ (a_ (h:=wo_nil (e_ (h:=aft_normal (wc_ret (?_))))))))))))
 all_goals (refine fin_ (hr:=(res_tmp rfl res_nil)) (h:=?_);(focus (first | (simp_all;done) | (simp_all <;> omega) | (simp_all <;> split <;> simp_all <;> omega))))
def splitN (m : Int) (z : List Et) (k : Int) : Int × List (List Et) := if (inI m 1 3 && inI k 0 4) = true then (if setC z = 0 then (if longE z k = true then (1,[]) else (0,partsN (shf m k) m.toNat z)) else (setC z,[])) else (3,[])
@[simp] abbrev srv (r : Int × List (List Et)) : V := .agg [.int .i64 r.1,.lst true 1 (etss true r.2)]
@[simp] abbrev srF (r : Int × List (List Et)) : V := .agg [.int .i64 r.1,.lst false 0 (etss false r.2)]
theorem r_splitI (m k : Int) (z : List Et) (hz : w_Ets z < 2000000) : runE oc cf 15 [.int .i64 m,.lst false 0 (ets false z),.int .i64 k] = some (srv (splitN m z k),[]) := by
 refine run_s cd15 rfl rfl rfl (by first | (simp;rfl) | rfl) (by first | (simp;rfl) | rfl) ?_
 have hzl := w_Ets_len (l:=z)
 refine wa_ (wc_region (w_ (bx (h:=w_ (bx (h:=w_ (al (h:=wo_nil (e_ (h:=aft_normal (wa_ (wa_ (wc_region (w_ (l_ (h:=w_ (l_ (h:=?_))))))))))))))))))
 refine w_ (ca (hc:=e_areW m k) (h:=w_ (u_ (h:=wo_nil (e_ (h:=aft_normal (?_)))))))
 refine c_ (h1:=?_) (h2:=?_)
 rotate_right 1
 focus
  intro c1
  first
  | exact dn c1
  | (
   have d1 := c1;try simp at d1
   have hm : 1 ≤ m ∧ m ≤ 3 ∧ 0 ≤ k ∧ k ≤ 4 := (by simp [inI] at d1;omega);obtain ⟨M,rfl⟩ : ∃ M : Nat,m = M := ⟨m.toNat,by omega⟩;have hmm : (inI (M : Int) 1 3 && inI k 0 4) = true := (by simp [inI];omega)
   refine wc_skip (?_)
   )
 rotate_right 1
 focus
  intro c1
  first
  | exact dn c1
  | (
   have d1 := c1;try simp at d1
   have hno : (inI m 1 3 && inI k 0 4) = false := (by revert c1;cases inI m 1 3 <;> cases inI k 0 4 <;> simp)
   refine wa_ (wc_region (w_ (bd (h:=w0 (s_ (h:=wo_nil (e_ (h:=aft_normal (wc_ret (?_))))))))))
   )
 all_goals first
 | refine aft_ret ?_
 | (
  refine aft_normal ?_
  refine wa_ (wc_region (w_ (m_ (h:=w_ (ca (hc:=e_setI z hz) (h:=w_ (a_ (h:=wo_nil (e_ (h:=aft_normal (wa_ (wc_block (wa_ (wc_region (w_ (m_ (h:=?_)))))))))))))))))
  refine w_ (bE (h:=w_ (a_ (h:=wo_nil (e_ (h:=aft_normal (?_)))))))
  refine c_ (h1:=?_) (h2:=?_)
  rotate_right 1
  focus
   intro c2
   first
   | exact dn c2
   | (
    have d2 := c2;try simp at d2
    refine wa_ (wc_region (w_ (m_ (h:=w_ (l_ (h:=w_ (ca (hc:=e_long z k hz) (h:=w_ (u_ (h:=w_ (a_ (h:=wo_nil (e_ (h:=aft_normal (?_)))))))))))))))
    refine c_ (h1:=?_) (h2:=?_)
    rotate_right 1
    focus
     intro c3
     first
     | exact dn c3
     | (
      have d3 := c3;try simp at d3
      refine wc_skip (?_)
      )
    rotate_right 1
    focus
     intro c3
     first
     | exact dn c3
     | (
      have d3 := c3;try simp at d3
      refine wa_ (wc_region (w_ (bd (h:=w0 (s_ (h:=wo_nil (e_ (h:=aft_normal (wc_ret (?_))))))))))
      )
    )
  rotate_right 1
  focus
   intro c2
   first
   | exact dn c2
   | (
    have d2 := c2;try simp at d2
    refine wa_ (wc_region (w_ (m_ (h:=w_ (bd (h:=w0 (s_ (h:=wo_nil (e_ (h:=aft_normal (wc_ret (?_))))))))))))
    )
  all_goals first | refine blk_normal ?_ | refine blk_ret ?_
  all_goals first
  | refine aft_ret ?_
  | (
   refine aft_normal ?_
   refine wa_ (wc_region (w_ (l_ (h:=w_ (m_ (h:=w_ (mf (h:=w_ (ca (hc:=e_part z M k hz (by omega) (by omega) (by omega) (by simpa using d3)) (h:=w_ (bd (h:=w0 (s_ (h:=wo_nil (e_ (h:=aft_normal (wc_ret (?_))))))))))))))))))
   )
  )
 all_goals (refine fin_ (hr:=(res_cell (tys_ok.zero _ _ rfl) rfl (by simp;rfl) (by rfl) res_nil)) (h:=?_);(focus (first | (simp only [splitN,hno];simp;done) | (simp only [splitN,hmm];simp at *;simp [*]))))
theorem e_l2Row (r : List Int) (h : r.length < 2000000) : oc.call 73 [.lst false 0 (ints r)] = some (.lst true 1 (ints r),[]) := by
 refine fun_s rfl cd73 rfl rfl rfl (by simp;rfl) (by simp;rfl) ?_
 refine wa_ (wc_region (w_ (aN (h:=wo_nil (e_ (h:=aft_normal (wa_ (wc_region (w_ (bs (h:=w_ (m_ (h:=w_ (ap (h:=w_ (a_ (h:=wo_nil (e_ (h:=?_)))))))))))))))))))
 refine aft_normal (wc_ret (?_))
 all_goals (refine fin_ (hr:=(res_tmp rfl res_nil)) (h:=?_);(focus (first | (simp_all;done) | (simp_all <;> omega) | (simp_all <;> split <;> simp_all <;> omega))))
theorem l_splitS (z : List Et) (m : Nat) (k : Int) (hz : w_Ets z < 2000000) (hm : 0 < m) (hm2 : m < 2000000) (h0 : 0 ≤ k) (h1 : longE z k = false) : ∀ i : Nat,(i ≤ z.length) → ∀ s,normE 3 (some [0,1,2,6,9,10]) s = ⟨[(0,.int .i64 m),(1,.lst false 0 (ets false z)),(2,.int .i64 k),(6,.ptr 3 0 []),(9,.ptr 4 0 []),(10,.int .i64 i)],[(3,⟨true,false,2,[.agg [.int .i64 0,.lst true 1 []]],0⟩),(4,⟨true,false,2,[.agg [.int .i64 0,.ref 5 0 m]],0⟩),(5,⟨false,false,1,etss true (partsN (shf m k) m (z.take i)),0⟩)],6⟩ →
 oc.loop 13 11 s = some (.exit 0,⟨[(6,.ptr 3 0 []),(9,.ptr 4 0 [])],[(3,⟨true,false,2,[.agg [.int .i64 0,.lst true 1 []]],0⟩),(4,⟨true,false,2,[.agg [.int .i64 0,.ref 5 0 m]],0⟩),(5,⟨false,false,1,etss true (partsN (shf m k) m z),0⟩)],6⟩) := by
 refine loop_ind (σ:=Nat) (fun i => z.length - i) _ (fun i => ⟨[(0,.int .i64 m),(1,.lst false 0 (ets false z)),(2,.int .i64 k),(6,.ptr 3 0 []),(9,.ptr 4 0 []),(10,.int .i64 i)],[(3,⟨true,false,2,[.agg [.int .i64 0,.lst true 1 []]],0⟩),(4,⟨true,false,2,[.agg [.int .i64 0,.ref 5 0 m]],0⟩),(5,⟨false,false,1,etss true (partsN (shf m k) m (z.take i)),0⟩)],6⟩) _ ?_
 intro i hi ih s hs
 refine loop_s cd13 rfl rfl hs ?_
 have hzl := w_Ets_len (l:=z)
 refine wa_ (wa_ (wc_region (w_ (m_ (h:=w_ (m_ (h:=w_ (le (h:=w_ (b_ (h:=wo_nil (e_ (h:=aft_normal (?_))))))))))))))
 refine c_ (h1:=?_) (h2:=?_)
 rotate_right 1
 focus
  intro c1
  first
  | exact dn c1
  | (
   have d1 := c1;try simp at d1
   refine wc_exit (?_)
   )
 rotate_right 1
 focus
  intro c1
  first
  | exact dn c1
  | (
   have d1 := c1;try simp at d1
   have hw := wrap_succ (i:=i) (by omega);obtain ⟨c,hx,e1,g1⟩ := ets_cut (t:=false) (l:=z) (i:=i) (by omega);have hcm := List.mem_of_getElem? hx;have hcr := row_in hz hcm;have hlong := longE_row h1 hcm;have hsh := shardN_in (m:=m) (r:=c.row) (k:=k) (by omega);obtain ⟨q,hq,hql,hqs⟩ := partsN_snoc (f:=shf m k) (m:=m) hx hsh.1 hsh.2;have g2 : (etss true (partsN (shf m k) m (z.take i)))[(shardN m c.row k).toNat]? = some (.lst true 2 (ets true q)) := etss_get (t:=true) hq;change (partsN (shf m k) m (z.take i)).set (shardN m c.row k).toNat (q ++ [c]) = _ at hqs;have hqt : List.take (q.length + 1) (q ++ [({ row := c.row,w := c.w } : Et)]) = q ++ [c] := List.take_of_length_le (by simp)
   refine wc_skip (?_)
   )
 all_goals first
 | refine aft_exit ?_
 | (
  refine aft_normal ?_
  refine wa_ (wc_block (wa_ (wc_region (w_ (m_ (h:=w_ (m_ (h:=w_ (m_ (h:=w_ (x_ (h:=w_ (f_ (h:=w_ (l_ (h:=w_ (m_ (h:=w_ (ca (hc:=e_shardS m k c.row hcr (by omega) h0 hlong) (h:=?_))))))))))))))))))))
  refine w_ (a_ (h:=wo_nil (e_ (h:=aft_normal (wc_draw (y_ (f_ (h:=ax_ (h:=y_ (l_ (h:=ax_ (h:=y_ (m_ (h:=ax_ (h:=y_ (f_ (h:=ax_ (h:=y_ (l_ (h:=ax_ (h:=y_ (m_ (h:=ax_ (h:=y_ (x_ (h:=ax_ (h:=y_ (l_ (h:=ax_ (h:=?_))))))))))))))))))))))))))))))
  refine y_ (m_ (h:=ax_ (h:=y_ (m_ (h:=ax_ (h:=y_ (x_ (h:=ax_ (h:=y_ (f_ (h:=ax_ (h:=y_ (l_ (h:=ax_ (h:=y_ (ca (hc:=e_l2Row c.row hcr) (h:=ax_ (h:=y_ (m_ (h:=ax_ (h:=y_ (m_ (h:=ax_ (h:=y_ (x_ (h:=ax_ (h:=y_ (f_ (h:=ax_ (h:=y_ (l_ (h:=ax_ (h:=y_ (bd (h:=ax_ (h:=?_))))))))))))))))))))))))))))))))))))
  refine y_ (bs (h:=ax_ (h:=y_ (?_))))
  refine apP (h:=?_)
  refine ax_ (h:=y_ (x_ (h:=ax_ (h:=y0 (s_ (h:=ax_ (h:=wo_nil (ed (h:=blk_normal (aft_normal (wc_region (w_ (m_ (h:=w_ (b_ (h:=w_ (a_ (h:=wo_nil (e_ (h:=?_))))))))))))))))))))
  )
 all_goals first
 | (refine (ih (i + 1) (by omega) ?_ _ ?_).trans ?_;(focus (first | omega | (simp;done) | (simp;omega)));(focus (simp [normE,hw,hqt,hqs];done));(focus (rfl)))
 | (apply end_leaf (ex:=(Ext.exit 0)) 3 (some [6,9]);(focus (simp [normE];rfl));(focus (rw [List.take_of_length_le (by omega)])))
theorem e_splitS (m k : Int) (z : List Et) (hz : w_Ets z < 2000000) : oc.call 13 [.int .i64 m,.lst false 0 (ets false z),.int .i64 k] = some (srv (splitN m z k),[]) := by
 refine fun_s rfl cd13 rfl rfl rfl (by simp;rfl) (by simp;rfl) ?_
 have hzl := w_Ets_len (l:=z)
 refine wa_ (wc_region (w_ (al (h:=wo_nil (e_ (h:=aft_normal (wa_ (wa_ (wc_region (w_ (m_ (h:=w_ (m_ (h:=w_ (ca (hc:=e_asked m k) (h:=w_ (a_ (h:=?_))))))))))))))))))
 refine wo_nil (e_ (h:=aft_normal (wa_ (wc_region (w_ (m_ (h:=w_ (bE (h:=wo_nil (e_ (h:=aft_normal (?_))))))))))))
 refine c_ (h1:=?_) (h2:=?_)
 rotate_right 1
 focus
  intro c1
  first
  | exact dn c1
  | (
   have d1 := c1;try simp at d1
   have hmm : (inI m 1 3 && inI k 0 4) = true := (by revert c1;cases inI m 1 3 <;> cases inI k 0 4 <;> simp);have hm : 1 ≤ m ∧ m ≤ 3 ∧ 0 ≤ k ∧ k ≤ 4 := (by simp [inI] at hmm;omega);obtain ⟨M,rfl⟩ : ∃ M : Nat,m = M := ⟨m.toNat,by omega⟩
   refine wc_skip (?_)
   )
 rotate_right 1
 focus
  intro c1
  first
  | exact dn c1
  | (
   have d1 := c1;try simp at d1
   have hno : (inI m 1 3 && inI k 0 4) = false := (by revert c1;cases inI m 1 3 <;> cases inI k 0 4 <;> simp)
   refine wa_ (wc_region (w_ (m_ (h:=w_ (bd (h:=w0 (s_ (h:=wo_nil (e_ (h:=aft_normal (wc_ret (?_))))))))))))
   )
 all_goals first
 | refine aft_ret ?_
 | (
  refine aft_normal ?_
  refine wa_ (wa_ (wc_region (w_ (m_ (h:=w_ (ca (hc:=e_setS z hz) (h:=w_ (a_ (h:=wo_nil (e_ (h:=aft_normal (wa_ (wc_region (w_ (m_ (h:=w_ (bE (h:=?_))))))))))))))))))
  refine wo_nil (e_ (h:=aft_normal (?_)))
  refine c_ (h1:=?_) (h2:=?_)
  rotate_right 1
  focus
   intro c2
   first
   | exact dn c2
   | (
    have d2 := c2;try simp at d2
    refine wc_skip (?_)
    )
  rotate_right 1
  focus
   intro c2
   first
   | exact dn c2
   | (
    have d2 := c2;try simp at d2
    refine wa_ (wc_region (w_ (m_ (h:=w_ (bd (h:=w0 (s_ (h:=wo_nil (e_ (h:=aft_normal (wc_ret (?_))))))))))))
    )
  all_goals first
  | refine aft_ret ?_
  | (
   refine aft_normal ?_
   refine wa_ (wa_ (wc_region (w_ (m_ (h:=w_ (m_ (h:=w_ (ca (hc:=e_short z k hz) (h:=wo_nil (e_ (h:=aft_normal (?_))))))))))))
   refine c_ (h1:=?_) (h2:=?_)
   rotate_right 1
   focus
    intro c3
    first
    | exact dn c3
    | (
     have d3 := c3;try simp at d3
     refine wc_skip (?_)
     )
   rotate_right 1
   focus
    intro c3
    first
    | exact dn c3
    | (
     have d3 := c3;try simp at d3
     refine wa_ (wc_region (w_ (bd (h:=w0 (s_ (h:=wo_nil (e_ (h:=aft_normal (wc_ret (?_))))))))))
     )
   all_goals first
   | refine aft_ret ?_
   | (
    refine aft_normal ?_
    refine wa_ (wc_region (w_ (m_ (h:=w_ (mk (h:=w_ (bd (h:=w_ (al (h:=w0 (s_ (h:=wo_nil (e_ (h:=aft_normal (wa_ (wa_ (wc_region (?_))))))))))))))))))
    refine w_ (a_ (h:=wo_nil (e_ (h:=aft_normal (wc_block (?_))))))
    refine wc_loop (l_splitS z M k hz (by omega) (by omega) (by omega) (by simpa using d3) 0 (by omega) _ (by simp [normE,partsN_nil,etss_zero])) ?_
    refine blk_exit (aft_normal (wa_ (wc_region (w_ (l_ (h:=w0 (s_ (h:=wo_nil (e_ (h:=aft_normal (wc_ret (?_))))))))))))
    )
   )
  )
 all_goals (refine fin_ (hr:=(res_cell (tys_ok.zero _ _ rfl) rfl (by simp;rfl) (by rfl) res_nil)) (h:=?_);(focus (first | (simp only [splitN,hno];simp;done) | (simp [splitN,hno];revert hno;cases inI m 1 3 <;> cases inI k 0 4 <;> simp;done) | (simp only [splitN,hmm];simp at *;simp [*]))))
theorem wS_sub {α : Type} {f : α → Nat} {l m : List α} (h : l.Sublist m) : wS f l ≤ wS f m := by
  induction h with
  | slnil => simp
  | cons x _ ih => simp only [wS_cons];omega
  | cons_cons x _ ih => simp only [wS_cons];omega
theorem w_Ets_sub {l m : List Et} (h : l.Sublist m) : w_Ets l ≤ w_Ets m := by
  have h1 := h.length_le;have h2 := wS_sub (f:=w_Et) h;unfold w_Ets;omega
theorem wS_leS {α : Type} {f : α → Nat} {c : Nat} {l : List α} (h : ∀ x ∈ l,f x ≤ c) : wS f l ≤ l.length * c := by
  induction l with
  | nil => simp
  | cons x r ih =>
    have h1 := h x (List.mem_cons_self ..)
    have h2 := ih (fun y hy => h y (List.mem_cons_of_mem _ hy))
    simp only [wS_cons,List.length_cons,Nat.succ_mul]
    omega
end Go.Proofs.Ytgkbmiaimjpbfaa.Ev
namespace Go.Proofs.Ytgkbmiaimjpbfaa.Ev
open Go
set_option maxRecDepth 100000
set_option linter.unusedSimpArgs false
set_option linter.unusedVariables false
set_option maxHeartbeats 2000000
theorem ers_cut {l : List Er} {i : Nat} (h : i < l.length) : ∃ x,l[i]? = some x ∧ l.drop i = x :: l.drop (i + 1) ∧ (ers l)[(i : Int).toNat]? = some (x.e.v false) :=
  ⟨l[i],by simp [h],List.drop_eq_getElem_cons h,by simp [ers,ets,h]⟩
@[simp] theorem ers_shareL (l : List Er) : V.shareL (ers l) = ers l := by simp [ers]
def idxUE (p : Er → Bool) (i : Nat) : List Er → Int
  | [] => -1
  | x :: r => if p x = true then i else idxUE p (i + 1) r
theorem idxU_anyE {p : Er → Bool} : ∀ {l : List Er} {i : Nat},decide (0 ≤ idxUE p i l) = l.any p
  | [],i => by simp [idxUE]
  | x :: r,i => by
    unfold idxUE
    by_cases h : p x = true
    · simp [h]
    · simp only [if_neg h,List.any_cons,idxU_anyE (l:=r) (i:=i + 1)];simp [h]
theorem l_ix_NilE (l : List (Er))  (p : Er → Bool) (hl : l.length < 2000000) (hc : ∀ x ∈ l,oc.call 178 [x.e.v false] = some (.bool (p x),[])) : ∀ i : Nat,i ≤ l.length → ∀ s,normE 2 (some [0,1,7,8]) s = ⟨[(0,.lst false 0 (ers l)),(1,.clo 178 []),(7,.int .i64 l.length),(8,.int .i64 i)],[],2⟩ →
 oc.loop 221 2 s = some (if 0 ≤ idxUE p i (l.drop i) then (.ret,⟨[(4,.int .i64 (idxUE p i (l.drop i)))],[],2⟩) else (.exit 0,⟨[],[],2⟩)) := by
 refine loop_ind (fun i => l.length - i) _ (fun i => ⟨[(0,.lst false 0 (ers l)),(1,.clo 178 []),(7,.int .i64 l.length),(8,.int .i64 i)],[],2⟩) _ ?_
 intro i hi ih s hs
 refine loop_s cd221 rfl rfl hs ?_
 refine wa_ (wc_region (w_ (b_ (h:=wo_nil (e_ (h:=aft_normal (wa_ (?_))))))))
 refine c_ (h1:=?_) (h2:=?_)
 rotate_right 1
 focus
  intro c1
  first
  | exact dn c1
  | (
   have d1 := c1;try simp at d1
   refine wc_exit (?_)
   )
 rotate_right 1
 focus
  intro c1
  first
  | exact dn c1
  | (
   have d1 := c1;try simp at d1
   have hw := wrap_succ (i:=i) (by omega);obtain ⟨x,hx,e1,g1⟩ := ers_cut (l:=l) (i:=i) (by omega);have hq := hc x (List.mem_of_getElem? hx)
   refine wc_skip (?_)
   )
 all_goals first
 | refine aft_exit ?_
 | (
  refine aft_normal ?_
  refine wa_ (wc_block (wa_ (wc_region (w_ (m_ (h:=w_ (a_ (h:=wo_nil (e_ (h:=aft_normal (wa_ (wc_region (w_ (m_ (h:=w_ (m_ (h:=?_)))))))))))))))))
  refine w_ (m_ (h:=w_ (x_ (h:=w_ (l_ (h:=w_ (?_)))))))
  refine k_callS rfl rfl (by rw [cf_in];rfl) rfl (by rw [cf_md];rfl) (by simp [cf_md,mdT];rfl) (by first | rfl | simp [*]) hq rfl (by simp;rfl) (by simp [cf_md,mdT]) (by simp;rfl) (by simp;rfl) ?_
  refine wo_nil (e_ (h:=aft_normal (?_)))
  refine c_ (h1:=?_) (h2:=?_)
  rotate_right 1
  focus
   intro c2
   first
   | exact dn c2
   | (
    have d2 := c2;try simp at d2
    refine wc_skip (?_)
    )
  rotate_right 1
  focus
   intro c2
   first
   | exact dn c2
   | (
    have d2 := c2;try simp at d2
    refine wa_ (wc_region (w_ (m_ (h:=w_ (a_ (h:=wo_nil (e_ (h:=aft_normal (wc_ret (?_))))))))))
    )
  all_goals first | refine blk_normal ?_ | refine blk_ret ?_
  all_goals first
  | refine aft_ret ?_
  | (
   refine aft_normal ?_
   refine wc_region (w_ (b_ (h:=w_ (m_ (h:=wo_nil (e_ (h:=?_)))))))
   )
  )
 all_goals first
 | (refine (ih (i + 1) (by omega) ?_ _ ?_).trans ?_;(focus (first | omega | (simp;done) | (simp;omega)));(focus (simp [normE,hw];done));(focus (rw [e1];simp only [idxUE,if_neg (show ¬ p x = true by simp [d2])])))
 | (apply end_leaf (ex:=Ext.ret) 2 (some [4]);(focus (simp [normE];rfl));(focus (rw [e1];simp [idxUE,d2])))
 | (apply end_leaf (ex:=(Ext.exit 0)) 2 (some [4]);(focus (simp [normE];rfl));(focus (rw [List.drop_eq_nil_of_le (by omega)];simp [idxUE])))
theorem e_ix_NilE (l : List (Er))  (p : Er → Bool) (hl : l.length < 2000000) (hc : ∀ x ∈ l,oc.call 178 [x.e.v false] = some (.bool (p x),[])) : oc.call 221 [.lst false 0 (ers l),.clo 178 []] = some (.int .i64 (if 0 ≤ idxUE p 0 l then idxUE p 0 l else -1),[]) := by
 refine fun_s rfl cd221 rfl rfl rfl (by simp;rfl) (by simp;rfl) ?_
 refine wa_ (wc_region (w_ (a_ (h:=wo_nil (e_ (h:=aft_normal (wa_ (wa_ (wc_region (w_ (m_ (h:=w_ (le (h:=w_ (m_ (h:=wo_nil (e_ (h:=?_))))))))))))))))))
 refine aft_normal (wc_block (?_))
 refine wc_loopI (l_ix_NilE l  p hl hc 0 (by omega) _ (by simp [normE])) ?_ ?_
 rotate_right 1
 focus
  intro c1
  skip
 rotate_right 1
 focus
  intro c1
  skip
 all_goals first | refine blk_ret ?_ | refine blk_exit ?_
 all_goals first
 | refine aft_ret ?_
 | (
  refine aft_normal ?_
  refine wa_ (wc_region (w_ (a_ (h:=wo_nil (e_ (h:=aft_normal (wc_ret (?_))))))))
  )
 all_goals (refine fin_ (hr:=(res_tmp rfl res_nil)) (h:=?_);(focus (clear hc;first | (simp_all;done) | (simp_all <;> omega))))
theorem e_rf1E (d : Er) : oc.call 178 [d.e.v false] = some (.bool (decide (d.w = 0)),[]) := by
 refine fun_s rfl cd178 rfl rfl rfl (by simp;rfl) (by simp;rfl) ?_
 refine wa_ (wc_region (w_ (bx (h:=w_ (a_ (h:=wo_nil (e_ (h:=aft_normal (wa_ (wc_region (w_ (f_ (h:=w_ (l_ (h:=w_ (bE (h:=w_ (a_ (h:=?_)))))))))))))))))))
 refine wo_nil (e_ (h:=aft_normal (wc_ret (?_))))
 all_goals (refine fin_ (hr:=(res_tmp rfl res_nil)) (h:=?_);(focus (first | rfl | simp [Er.e])))
def badE (d : Er) : Bool := !inI d.w (-1000000000000) 1000000000000
theorem l_ix_BigE (l : List (Er))  (p : Er → Bool) (hl : l.length < 2000000) (hc : ∀ x ∈ l,oc.call 179 [x.e.v false] = some (.bool (p x),[])) : ∀ i : Nat,i ≤ l.length → ∀ s,normE 2 (some [0,1,7,8]) s = ⟨[(0,.lst false 0 (ers l)),(1,.clo 179 []),(7,.int .i64 l.length),(8,.int .i64 i)],[],2⟩ →
 oc.loop 221 2 s = some (if 0 ≤ idxUE p i (l.drop i) then (.ret,⟨[(4,.int .i64 (idxUE p i (l.drop i)))],[],2⟩) else (.exit 0,⟨[],[],2⟩)) := by
 refine loop_ind (fun i => l.length - i) _ (fun i => ⟨[(0,.lst false 0 (ers l)),(1,.clo 179 []),(7,.int .i64 l.length),(8,.int .i64 i)],[],2⟩) _ ?_
 intro i hi ih s hs
 refine loop_s cd221 rfl rfl hs ?_
 refine wa_ (wc_region (w_ (b_ (h:=wo_nil (e_ (h:=aft_normal (wa_ (?_))))))))
 refine c_ (h1:=?_) (h2:=?_)
 rotate_right 1
 focus
  intro c1
  first
  | exact dn c1
  | (
   have d1 := c1;try simp at d1
   refine wc_exit (?_)
   )
 rotate_right 1
 focus
  intro c1
  first
  | exact dn c1
  | (
   have d1 := c1;try simp at d1
   have hw := wrap_succ (i:=i) (by omega);obtain ⟨x,hx,e1,g1⟩ := ers_cut (l:=l) (i:=i) (by omega);have hq := hc x (List.mem_of_getElem? hx)
   refine wc_skip (?_)
   )
 all_goals first
 | refine aft_exit ?_
 | (
  refine aft_normal ?_
  refine wa_ (wc_block (wa_ (wc_region (w_ (m_ (h:=w_ (a_ (h:=wo_nil (e_ (h:=aft_normal (wa_ (wc_region (w_ (m_ (h:=w_ (m_ (h:=?_)))))))))))))))))
  refine w_ (m_ (h:=w_ (x_ (h:=w_ (l_ (h:=w_ (?_)))))))
  refine k_callS rfl rfl (by rw [cf_in];rfl) rfl (by rw [cf_md];rfl) (by simp [cf_md,mdT];rfl) (by first | rfl | simp [*]) hq rfl (by simp;rfl) (by simp [cf_md,mdT]) (by simp;rfl) (by simp;rfl) ?_
  refine wo_nil (e_ (h:=aft_normal (?_)))
  refine c_ (h1:=?_) (h2:=?_)
  rotate_right 1
  focus
   intro c2
   first
   | exact dn c2
   | (
    have d2 := c2;try simp at d2
    refine wc_skip (?_)
    )
  rotate_right 1
  focus
   intro c2
   first
   | exact dn c2
   | (
    have d2 := c2;try simp at d2
    refine wa_ (wc_region (w_ (m_ (h:=w_ (a_ (h:=wo_nil (e_ (h:=aft_normal (wc_ret (?_))))))))))
    )
  all_goals first | refine blk_normal ?_ | refine blk_ret ?_
  all_goals first
  | refine aft_ret ?_
  | (
   refine aft_normal ?_
   refine wc_region (w_ (b_ (h:=w_ (m_ (h:=wo_nil (e_ (h:=?_)))))))
   )
  )
 all_goals first
 | (refine (ih (i + 1) (by omega) ?_ _ ?_).trans ?_;(focus (first | omega | (simp;done) | (simp;omega)));(focus (simp [normE,hw];done));(focus (rw [e1];simp only [idxUE,if_neg (show ¬ p x = true by simp [d2])])))
 | (apply end_leaf (ex:=Ext.ret) 2 (some [4]);(focus (simp [normE];rfl));(focus (rw [e1];simp [idxUE,d2])))
 | (apply end_leaf (ex:=(Ext.exit 0)) 2 (some [4]);(focus (simp [normE];rfl));(focus (rw [List.drop_eq_nil_of_le (by omega)];simp [idxUE])))
theorem e_ix_BigE (l : List (Er))  (p : Er → Bool) (hl : l.length < 2000000) (hc : ∀ x ∈ l,oc.call 179 [x.e.v false] = some (.bool (p x),[])) : oc.call 221 [.lst false 0 (ers l),.clo 179 []] = some (.int .i64 (if 0 ≤ idxUE p 0 l then idxUE p 0 l else -1),[]) := by
 refine fun_s rfl cd221 rfl rfl rfl (by simp;rfl) (by simp;rfl) ?_
 refine wa_ (wc_region (w_ (a_ (h:=wo_nil (e_ (h:=aft_normal (wa_ (wa_ (wc_region (w_ (m_ (h:=w_ (le (h:=w_ (m_ (h:=wo_nil (e_ (h:=?_))))))))))))))))))
 refine aft_normal (wc_block (?_))
 refine wc_loopI (l_ix_BigE l  p hl hc 0 (by omega) _ (by simp [normE])) ?_ ?_
 rotate_right 1
 focus
  intro c1
  skip
 rotate_right 1
 focus
  intro c1
  skip
 all_goals first | refine blk_ret ?_ | refine blk_exit ?_
 all_goals first
 | refine aft_ret ?_
 | (
  refine aft_normal ?_
  refine wa_ (wc_region (w_ (a_ (h:=wo_nil (e_ (h:=aft_normal (wc_ret (?_))))))))
  )
 all_goals (refine fin_ (hr:=(res_tmp rfl res_nil)) (h:=?_);(focus (clear hc;first | (simp_all;done) | (simp_all <;> omega))))
theorem e_any_BigE (l : List (Er))  (p : Er → Bool) (hl : l.length < 2000000) (hc : ∀ x ∈ l,oc.call 179 [x.e.v false] = some (.bool (p x),[])) : oc.call 153 [.lst false 0 (ers l),.clo 179 []] = some (.bool (l.any p),[]) := by
 refine fun_s rfl cd153 rfl rfl rfl (by simp;rfl) (by simp;rfl) ?_
 refine wa_ (wc_region (w_ (a_ (h:=wo_nil (e_ (h:=aft_normal (wa_ (wc_region (w_ (m_ (h:=w_ (m_ (h:=w_ (ca (hc:=e_ix_BigE l  p hl hc) (h:=w_ (b_ (h:=w_ (a_ (h:=?_)))))))))))))))))))
 refine wo_nil (e_ (h:=aft_normal (wc_ret (?_))))
 all_goals (refine fin_ (hr:=(res_tmp rfl res_nil)) (h:=?_);(focus (clear hc;rw [← idxU_anyE (i:=0)];simp;grind)))
theorem e_rf2E (d : Er) : oc.call 179 [d.e.v false] = some (.bool (badE d),[]) := by
 refine fun_s rfl cd179 rfl rfl rfl (by simp;rfl) (by simp;rfl) ?_
 refine wa_ (wc_region (w_ (bx (h:=w_ (a_ (h:=wo_nil (e_ (h:=aft_normal (wa_ (wc_region (w_ (f_ (h:=w_ (l_ (h:=w_ (ca (hc:=e_isWeight _) (h:=w_ (u_ (h:=?_)))))))))))))))))))
 refine w_ (a_ (h:=wo_nil (e_ (h:=aft_normal (wc_ret (?_))))))
 all_goals (refine fin_ (hr:=(res_tmp rfl res_nil)) (h:=?_);(focus (simp [badE,Er.e])))
def isUE (d : Er) : Bool := decide (¬ d.w = 0)
def notUE (d : Er) : Bool := decide (d.w = 0)
theorem idxU_negE : ∀ {l : List Er} {i : Nat},¬ 0 ≤ idxUE notUE i l → l.filter isUE = l
  | [],_,_ => rfl
  | x :: r,i,h => by
    unfold idxUE at h
    by_cases hx : notUE x = true
    · rw [if_pos hx] at h;omega
    · rw [if_neg hx] at h
      have h4 : isUE x = true := by simp [notUE] at hx;simp [isUE,hx]
      rw [List.filter_cons,if_pos h4,idxU_negE h]
theorem idxU_posE : ∀ {l : List Er} {i : Nat},0 ≤ idxUE notUE i l → ∃ k : Nat,idxUE notUE i l = ((i + k : Nat) : Int) ∧ k < l.length ∧ (l.take k).filter isUE = l.take k ∧ (l.drop k).filter isUE = (l.drop (k + 1)).filter isUE
  | [],i,h => by simp [idxUE] at h
  | x :: r,i,h => by
    unfold idxUE at h ⊢
    by_cases hx : notUE x = true
    · rw [if_pos hx]
      have h4 : ¬ isUE x = true := by simp [notUE] at hx;simp [isUE,hx]
      exact ⟨0,by simp,by simp,rfl,by simp [h4]⟩
    · rw [if_neg hx] at h ⊢
      obtain ⟨k,e1,e2,e3,e4⟩ := idxU_posE h
      have h4 : isUE x = true := by simp [notUE] at hx;simp [isUE,hx]
      exact ⟨k + 1,by rw [e1];congr 1;omega,by simp;omega,by rw [List.take_succ_cons,List.filter_cons,if_pos h4,e3],by simpa using e4⟩
def Ov (o : Option (List Int)) (w : Int) : V := .agg [match o with | some r => .lst true 1 (ints r) | none => .und,.int .i64 w]
def ovs (r : List (Option (List Int) × Int)) : List V := r.map fun p => Ov p.1 p.2
@[simp] theorem ovs_len (r : List (Option (List Int) × Int)) : (ovs r).length = r.length := by simp [ovs]
def ovE (x : Er) : Option (List Int) × Int := (some x.row,x.w)
def erT (l : List Er) : List V := ets true (l.map Er.e)
@[simp] theorem erT_len (l : List Er) : (erT l).length = l.length := by simp [erT]
@[simp] theorem erT_nil : erT [] = [] := rfl
@[simp] theorem erT_shareL (l : List Er) : V.shareL (erT l) = ers l := by simp [erT,ers]
@[simp] theorem erT_take (n : Nat) (l : List Er) : (erT l).take n = erT (l.take n) := by simp [erT]
theorem ovs_T (l : List Er) : ovs (l.map ovE) = erT l := by
  simp only [ovs,erT,ets,List.map_map];rfl
theorem ovs_get {r : List (Option (List Int) × Int)} {i : Nat} {p : Option (List Int) × Int} (h : r[i]? = some p) : (ovs r)[i]? = some (Ov p.1 p.2) := by simp [ovs,h]
@[simp] theorem ovs_set1 (r : List (Option (List Int) × Int)) (i : Nat) (w : Int) : (ovs r).set i (V.agg [.und,.int .i64 w]) = ovs (r.set i (none,w)) := by simp [ovs,List.map_set,Ov]
@[simp] theorem ovs_set2 (r : List (Option (List Int) × Int)) (i : Nat) (a : List Int) (w : Int) : (ovs r).set i (V.agg [.lst true 1 (ints a),.int .i64 w]) = ovs (r.set i (some a,w)) := by simp [ovs,List.map_set,Ov]
theorem ovs_take (n : Nat) (r : List (Option (List Int) × Int)) : (ovs r).take n = ovs (r.take n) := by simp [ovs,List.map_take]
@[simp] theorem Ov_cells (a : Option (List Int)) (b : Int) : (Ov a b).cells = 2 := by cases a <;> rfl
@[simp] theorem Ov_alikeP (a : Option (List Int)) (b c : Int) (k : IntKind) (o i v n : Nat) (fs : List Nat) : (Ov a b).alike (.agg [.plc o i fs v n,.int k c]) = true := by cases a <;> rfl
@[simp] theorem Ov_alikeL (a : Option (List Int)) (b c : Int) (k : IntKind) (t : Bool) (z : Nat) (xs : List V) : (Ov a b).alike (.agg [.lst t z xs,.int k c]) = true := by cases a <;> rfl
@[simp] theorem Ov_scal (a : Option (List Int)) (b : Int) : (Ov a b).scal = false := by cases a <;> rfl
theorem fz_mvE {o : List (Nat × Ob)} {n q j v m z : Nat} {ob : Ob} {xs : List V} {k k' : IntKind} {w w' : Int} (ho : geta o q = some ob) (hv : ob.ver = v) (hg : ob.xs[j]? = some (.agg [.lst true z xs,.int k w])) (hm : xs.length = m) :
    V.fz (.agg [.plc q j [0] v m,.int k' w']) ⟨[],o,n⟩ = some (.agg [.lst true z xs,.int k' w'],⟨[],(q,⟨ob.bx,ob.fx,ob.sz,ob.xs.set j (.agg [.und,.int k w]),v⟩) :: o,n⟩) := by
  subst hv hm
  simp [V.fz,V.fzL,St.takeQ,St.at,ho,Ob.get,Ob.set,hg,getF,setF,mp,puta]
def delFE : List Er → Nat → Nat → List (Option (List Int) × Int) → Nat × List (Option (List Int) × Int)
  | [],i,_,r => (i,r)
  | d :: t,i,j,r => if isUE d = true then delFE t (i + 1) (j + 1) ((r.set j (none,d.w)).set i (ovE d)) else delFE t i (j + 1) r
theorem delF_isE : ∀ {t : List Er} {i j : Nat} {r : List (Option (List Int) × Int)},i < j → j + t.length = r.length → (delFE t i j r).2.length = r.length ∧ (delFE t i j r).1 < r.length + 1 ∧ (delFE t i j r).2.take (delFE t i j r).1 = r.take i ++ (t.filter isUE).map ovE
  | [],i,j,r,h0,h => by simp [delFE] at *;omega
  | d :: t,i,j,r,h0,h => by
    simp only [List.length_cons] at h
    unfold delFE
    by_cases hd : isUE d = true
    · rw [if_pos hd]
      obtain ⟨h1,h2,h3⟩ := delF_isE (t:=t) (i:=i + 1) (j:=j + 1) (r:=(r.set j (none,d.w)).set i (ovE d)) (by omega) (by simp;omega)
      simp only [List.length_set] at h1 h2
      refine ⟨h1,h2,?_⟩
      rw [h3,List.filter_cons,if_pos hd]
      have : ((r.set j (none,d.w)).set i (ovE d)).take (i + 1) = r.take i ++ [ovE d] := by
        rw [List.take_add_one,List.getElem?_set_self (by simp;omega),List.take_set_of_le (by omega),List.take_set_of_le (by omega)];rfl
      rw [this];simp
    · rw [if_neg hd]
      obtain ⟨h1,h2,h3⟩ := delF_isE (t:=t) (i:=i) (j:=j + 1) (r:=r) (by omega) (by omega)
      exact ⟨h1,h2,by rw [h3,List.filter_cons,if_neg hd]⟩
theorem delF_ltE : ∀ {t : List Er} {i j : Nat} {r : List (Option (List Int) × Int)},i < j → (delFE t i j r).1 < j + t.length
  | [],i,j,r,h => by simp [delFE];exact h
  | d :: t,i,j,r,h => by
    unfold delFE
    split
    · have := delF_ltE (t:=t) (i:=i + 1) (j:=j + 1) (r:=(r.set j (none,d.w)).set i (ovE d)) (by omega);simp;omega
    · have := delF_ltE (t:=t) (i:=i) (j:=j + 1) (r:=r) (by omega);simp;omega
theorem l_delE (l : List Er) (N : Nat) (hN : l.length = N) (hl : N < 2000000) : ∀ x : Nat × Nat × (List (Option (List Int) × Int)),(x.1 < x.2.1 ∧ x.2.1 ≤ N ∧ x.2.2.length = N ∧ x.2.2.drop x.2.1 = (l.drop x.2.1).map ovE) → ∀ s,normE 2 (some [0,1,5,6]) s = ⟨[(0,.ref 0 0 N),(1,.clo 178 []),(5,.int .i64 x.1),(6,.int .i64 x.2.1)],[(0,⟨false,false,2,ovs x.2.2,0⟩)],2⟩ →
 oc.loop 177 5 s = some (.exit 0,⟨[(0,.ref 0 0 N),(5,.int .i64 ((delFE (l.drop x.2.1) x.1 x.2.1 x.2.2).1 : Nat))],[(0,⟨false,false,2,ovs (delFE (l.drop x.2.1) x.1 x.2.1 x.2.2).2,0⟩)],2⟩) := by
 refine loop_ind (σ:=Nat × Nat × (List (Option (List Int) × Int))) (fun x => N - x.2.1) _ (fun x => ⟨[(0,.ref 0 0 N),(1,.clo 178 []),(5,.int .i64 x.1),(6,.int .i64 x.2.1)],[(0,⟨false,false,2,ovs x.2.2,0⟩)],2⟩) _ ?_
 rintro ⟨i,j,r⟩ hi ih s hs
 simp only at hi
 refine loop_s cd177 rfl rfl hs ?_
 obtain ⟨hi1,hi2,hi3,hi4⟩ := hi
 refine wa_ (wa_ (wc_region (w_ (m_ (h:=w_ (m_ (h:=w_ (le (h:=w_ (b_ (h:=wo_nil (e_ (h:=aft_normal (?_))))))))))))))
 refine c_ (h1:=?_) (h2:=?_)
 rotate_right 1
 focus
  intro c1
  first
  | exact dn c1
  | (
   have d1 := c1;try simp at d1
   refine wc_exit (?_)
   )
 rotate_right 1
 focus
  intro c1
  first
  | exact dn c1
  | (
   have d1 := c1;try simp at d1
   have hw := wrap_succ (i:=j) (by omega);have hwi := wrap_succ (i:=i) (by omega);obtain ⟨d,hx,e1,_⟩ := ers_cut (l:=l) (i:=j) (by omega);have hy : r[j]? = some (ovE d) := (by have := congrArg (fun q => q[0]?) hi4;simpa [hx] using this);have g2 : (ovs r)[j]? = some (V.agg [.lst true 1 (ints d.row),.int .i64 d.w]) := ovs_get hy;obtain ⟨y,hy2⟩ : ∃ y,r[i]? = some y := ⟨r[i]'(by omega),by simp⟩;have g3 : (ovs r)[i]? = some (Ov y.1 y.2) := ovs_get hy2;have g4 : ((ovs r).set j (V.agg [.und,.int .i64 d.w]))[i]? = some (Ov y.1 y.2) := (by rw [List.getElem?_set_ne (by omega)];exact g3);have e2 : r.drop (j + 1) = (l.drop (j + 1)).map ovE := (by have := congrArg (List.drop 1) hi4;simpa using this)
   refine wc_skip (?_)
   )
 all_goals first
 | refine aft_exit ?_
 | (
  refine aft_normal ?_
  refine wa_ (wc_block (wa_ (wc_region (w_ (m_ (h:=w_ (m_ (h:=w_ (x_ (h:=w_ (l_ (h:=w_ (al (h:=w0 (s_ (h:=wo_nil (e_ (h:=aft_normal (?_)))))))))))))))))))
  refine wa_ (wc_region (w_ (m_ (h:=w_ (l_ (h:=w_ (?_)))))))
  refine ca (hsr:=by simp [g2,Er.e,Et.v,lz]) (hc:=e_rf1E d) (h:=?_)
  refine w_ (u_ (h:=wo_nil (e_ (h:=aft_normal (?_)))))
  refine c_ (h1:=?_) (h2:=?_)
  rotate_right 1
  focus
   intro c2
   first
   | exact dn c2
   | (
    have d2 := c2;try simp at d2
    refine wc_skip (?_)
    )
  rotate_right 1
  focus
   intro c2
   first
   | exact dn c2
   | (
    have d2 := c2;try simp at d2
    refine wa_ (wc_region (w_ (m_ (h:=w_ (m_ (h:=w_ (l_ (h:=w_ (x_ (h:=w0 (?_)))))))))))
    refine s_ (h1:=k_storeE (tys_ok.zero _ _ rfl) rfl rfl rfl rfl g3 (by simp) (by rfl) (fz_mvE rfl rfl g2 (by simp)) rfl rfl g4 (by simp) rfl rfl ⟨rfl,rfl⟩) (h:=?_)
    refine wo_nil (e_ (h:=aft_normal (wc_region (w_ (m_ (h:=w_ (b_ (h:=w_ (a_ (h:=wo_nil (e_ (h:=?_))))))))))))
    )
  all_goals refine blk_normal ?_
  all_goals first
  | (
   refine aft_normal ?_
   refine wc_region (w_ (m_ (h:=w_ (b_ (h:=w_ (a_ (h:=wo_nil (e_ (h:=?_)))))))))
   )
  )
 all_goals first
 | (refine (ih ((i + 1,j + 1,(r.set j (none,d.w)).set i (ovE d))) (⟨by simp only;omega,by simp only;omega,by simpa using hi3,by simp only;rw [List.drop_set_of_lt (by omega),List.drop_set_of_lt (by omega)];exact e2⟩) ?_ _ ?_).trans ?_;(focus (first | omega | (simp;done) | (simp;omega)));(focus (simp [normE,hw,hwi,ovE];done));(focus (rw [e1,delFE,if_pos (by simpa [isUE] using d2)])))
 | (refine (ih ((i,j + 1,r)) (⟨by simp only;omega,by simp only;omega,by simpa using hi3,by simp only;exact e2⟩) ?_ _ ?_).trans ?_;(focus (first | omega | (simp;done) | (simp;omega)));(focus (simp [normE,hw];done));(focus (rw [e1,delFE,if_neg (by simpa [isUE] using d2)])))
 | (apply end_leaf (ex:=(Ext.exit 0)) 2 (some [0,5]);(focus (simp [normE];rfl));(focus (dsimp only;rw [List.drop_eq_nil_of_le (by omega)];simp [delFE])))
theorem e_delUE (l : List Er) (hl : l.length < 2000000) : oc.call 177 [.lst true 2 (erT l),.clo 178 []] = some (.lst true 2 (erT (l.filter isUE)),[]) := by
  have hix := e_ix_NilE l notUE hl (fun x _ => by simpa [notUE] using e_rf1E x)
  have hsh : V.shareL (erT l) = ers l := by simp [erT,ers]
  have hsn : V.shareL (ovs (l.map ovE)) = ers l := by rw [ovs_T];exact hsh
  by_cases hp : 0 ≤ idxUE notUE 0 l
  · obtain ⟨k,e1,e2,e3,e4⟩ := idxU_posE hp
    rw [if_pos hp,e1] at hix
    simp only [Nat.zero_add] at hix
    obtain ⟨D1,D2,D3⟩ := delF_isE (t:=l.drop (k + 1)) (i:=k) (j:=k + 1) (r:=l.map ovE) (by omega) (by simp;omega)
    have D4 := delF_ltE (t:=l.drop (k + 1)) (i:=k) (j:=k + 1) (r:=l.map ovE) (by omega)
    have hfilt : l.filter isUE = l.take k ++ (l.drop (k + 1)).filter isUE := by
      conv => lhs;rw [← List.take_append_drop k l]
      rw [List.filter_append,e3,e4]
    rw [← List.map_take,← List.map_append,← hfilt] at D3
    obtain ⟨I,R,hD⟩ : ∃ I R,delFE (l.drop (k + 1)) k (k + 1) (l.map ovE) = (I,R) := ⟨_,_,rfl⟩
    rw [hD] at D1 D2 D3 D4
    simp only at D1 D2 D3 D4
    obtain ⟨F,hF⟩ : ∃ F,l.filter isUE = F := ⟨_,rfl⟩
    rw [hF] at D3 ⊢
    simp only [List.length_map,List.length_drop] at D1 D2 D4
    have hFl : F.length = I := by have := congrArg List.length D3;simp at this;omega
    subst hFl
    have hw : IntKind.i64.wrap ((k : Int) + 1) = ((k + 1 : Nat) : Int) := wrap_succ (by omega)
    have hdel := l_delE l l.length rfl hl (k,k + 1,l.map ovE) ⟨by simp,by simp;omega,by simp,by simp [List.map_drop]⟩
    simp only [hD] at hdel
    have hcl : (ovs R).take F.length = erT F := by rw [ovs_take,D3,ovs_T]
    have htk : (ovs (l.map ovE)).take l.length = ovs (l.map ovE) := List.take_of_length_le (by simp)
    rw [← ovs_T l]
    refine fun_s rfl cd177 rfl rfl rfl (by simp;rfl) (by simp;rfl) ?_
    refine wa_ (wc_region (w_ (aN (h:=wo_nil (e_ (h:=aft_normal (wa_ (wc_region (w_ (m_ (h:=w_ (m_ (h:=w_ (ca (hc:=hix) (h:=w_ (a_ (h:=wo_nil (e_ (h:=?_)))))))))))))))))))
    refine aft_normal (wa_ (wa_ (wc_region (w_ (m_ (h:=w_ (bE (h:=wo_nil (e_ (h:=aft_normal (?_)))))))))))
    refine c_ (h1:=?_) (h2:=?_)
    rotate_right 1
    focus
     intro c1
     first
     | exact dn c1
     | (have d1 := c1;try simp at d1
        refine wc_skip (?_)
        )
    rotate_right 1
    focus
     intro c1
     first
     | exact dn c1
     | (have d1 := c1;try simp at d1
        exfalso;simp at c1;omega
        )
    all_goals first
    | refine aft_ret ?_
    | (refine aft_normal ?_
       refine wa_ (wa_ (wc_region (w_ (m_ (h:=w_ (b_ (h:=w_ (a_ (h:=wo_nil (e_ (h:=aft_normal (wc_block (?_)))))))))))))
       refine wc_loop (hdel _ (by simp [normE,hw])) ?_
       refine blk_exit (aft_normal (wa_ (wc_region (w_ (m_ (h:=w_ (m_ (h:=w_ (?_)))))))))
       refine sl (v:=.ref 0 F.length (l.length - F.length)) (hv:=cut_tailC rfl (by omega) rfl rfl) (h:=?_)
       refine w0 (?_)
       refine cl (ws:=erT F) (hw:=hcl) (h:=?_)
       refine wo_nil (e_ (h:=aft_normal (wa_ (wc_region (w_ (m_ (h:=w_ (m_ (h:=w_ (sl (h:=w_ (a_ (h:=wo_nil (e_ (h:=aft_normal (wc_ret (?_)))))))))))))))))
       )
    all_goals (refine fin_ (hr:=(res_tmp rfl res_nil)) (h:=?_);(focus (simp)))
  · have hfil := idxU_negE hp
    rw [if_neg hp] at hix
    rw [hfil]
    refine fun_s rfl cd177 rfl rfl rfl (by simp;rfl) (by simp;rfl) ?_
    refine wa_ (wc_region (w_ (aN (h:=wo_nil (e_ (h:=aft_normal (wa_ (wc_region (w_ (m_ (h:=w_ (m_ (h:=w_ (ca (hc:=hix) (h:=w_ (a_ (h:=wo_nil (e_ (h:=?_)))))))))))))))))))
    refine aft_normal (wa_ (wa_ (wc_region (w_ (m_ (h:=w_ (bE (h:=wo_nil (e_ (h:=aft_normal (?_)))))))))))
    refine c_ (h1:=?_) (h2:=?_)
    rotate_right 1
    focus
     intro c1
     first
     | exact dn c1
     | (have d1 := c1;try simp at d1
        exfalso;simp at c1
        )
    rotate_right 1
    focus
     intro c1
     first
     | exact dn c1
     | (have d1 := c1;try simp at d1
        refine wa_ (wc_region (w_ (m_ (h:=w_ (a_ (h:=wo_nil (e_ (h:=aft_normal (wc_ret (?_))))))))))
        )
    all_goals first
    | refine aft_ret ?_
    | (refine aft_normal ?_
       refine wa_ (wa_ (wc_region (w_ (m_ (h:=w_ (b_ (h:=w_ (a_ (h:=wo_nil (e_ (h:=aft_normal (wc_block (?_)))))))))))))
       refine wc_loop (hix) ?_
       refine blk_exit (aft_normal (wa_ (wc_region (w_ (m_ (h:=w_ (m_ (h:=w_ (sl (h:=w0 (cl (h:=wo_nil (e_ (h:=aft_normal (wa_ (wc_region (?_)))))))))))))))))
       refine w_ (m_ (h:=w_ (m_ (h:=w_ (sl (h:=w_ (a_ (h:=wo_nil (e_ (h:=aft_normal (wc_ret (?_))))))))))))
       )
    all_goals (refine fin_ (hr:=(res_tmp rfl res_nil)) (h:=?_);(focus (simp)))
theorem c1_E (l : List Et) (hl : l.length < 2000000) (h : l ≠ []) : runE oc cf 174 [.lst false 0 (ets false l)] = some (.lst true 2 (ets false l),[]) := by
 refine run_s cd174 rfl rfl rfl (by first | (simp;rfl) | rfl) (by first | (simp;rfl) | rfl) ?_
 have hne : ets false l ≠ [] := by simpa [ets] using h
 refine wa_ (wc_region (w_ (aN (h:=wo_nil (e_ (h:=aft_normal (wa_ (wa_ (wc_region (w_ (m_ (h:=w_ (bN (h:=wo_nil (e_ (h:=aft_normal (?_)))))))))))))))))
 refine c_ (h1:=?_) (h2:=?_)
 rotate_right 1
 focus
  intro c1
  refine wc_skip (?_)
 rotate_right 1
 focus
  intro c1
  refine wa_ (wc_region (w_ (aN (h:=wo_nil (e_ (h:=aft_normal (wc_ret (?_))))))))
 all_goals first
 | refine aft_ret ?_
 | (
  refine aft_normal ?_
  refine wa_ (wc_region (w_ (bs (h:=w_ (m_ (h:=w_ (ap (h:=w_ (a_ (h:=wo_nil (e_ (h:=aft_normal (wc_ret (?_))))))))))))))
  )
 all_goals (refine fin_ (hr:=(res_tmp rfl res_nil)) (h:=?_);(focus (first | (simp_all;done) | (simp_all <;> omega) | (simp_all <;> split <;> simp_all <;> omega))))
theorem c2_E  : runE oc cf 174 [.emp true] = some (.lst true 2 [],[]) := by
 refine run_s cd174 rfl rfl rfl (by first | (simp;rfl) | rfl) (by first | (simp;rfl) | rfl) ?_
 refine wa_ (wc_region (w_ (aN (h:=wo_nil (e_ (h:=aft_normal (wa_ (wa_ (wc_region (w_ (m_ (h:=w_ (bN (h:=wo_nil (e_ (h:=aft_normal (?_)))))))))))))))))
 refine c_ (h1:=?_) (h2:=?_)
 rotate_right 1
 focus
  intro c1
  first
  | exact dn c1
  | (
   have d1 := c1;try simp at d1
   refine wc_skip (?_)
   )
 rotate_right 1
 focus
  intro c1
  first
  | exact dn c1
  | (
   have d1 := c1;try simp at d1
   refine wa_ (wc_region (w_ (aN (h:=wo_nil (e_ (h:=aft_normal (wc_ret (?_))))))))
   )
 all_goals first
 | refine aft_ret ?_
 | (
  refine aft_normal ?_
  refine wa_ (wc_region (w_ (bs (h:=w_ (m_ (h:=w_ (ap (h:=w_ (a_ (h:=wo_nil (e_ (h:=aft_normal (wc_ret (?_))))))))))))))
  )
 all_goals (refine fin_ (hr:=(res_tmp rfl res_nil)) (h:=?_);(focus (first | (simp_all;done) | (simp_all <;> omega) | (simp_all <;> split <;> simp_all <;> omega))))
theorem c3_E  : runE oc cf 174 [.emp false] = some (.lst true 2 [],[]) := by
 refine run_s cd174 rfl rfl rfl (by first | (simp;rfl) | rfl) (by first | (simp;rfl) | rfl) ?_
 refine wa_ (wc_region (w_ (aN (h:=wo_nil (e_ (h:=aft_normal (wa_ (wa_ (wc_region (w_ (m_ (h:=w_ (bN (h:=wo_nil (e_ (h:=aft_normal (?_)))))))))))))))))
 refine c_ (h1:=?_) (h2:=?_)
 rotate_right 1
 focus
  intro c1
  first
  | exact dn c1
  | (
   have d1 := c1;try simp at d1
   refine wc_skip (?_)
   )
 rotate_right 1
 focus
  intro c1
  first
  | exact dn c1
  | (
   have d1 := c1;try simp at d1
   refine wa_ (wc_region (w_ (aN (h:=wo_nil (e_ (h:=aft_normal (wc_ret (?_))))))))
   )
 all_goals first
 | refine aft_ret ?_
 | (
  refine aft_normal ?_
  refine wa_ (wc_region (w_ (bs (h:=w_ (m_ (h:=w_ (ap (h:=w_ (a_ (h:=wo_nil (e_ (h:=aft_normal (wc_ret (?_))))))))))))))
  )
 all_goals (refine fin_ (hr:=(res_tmp rfl res_nil)) (h:=?_);(focus (first | (simp_all;done) | (simp_all <;> omega) | (simp_all <;> split <;> simp_all <;> omega))))
theorem e_cloneE (l : List Et) (hl : l.length < 2000000) : oc.call 174 [.lst false 0 (ets false l)] = some (.lst true 2 (ets false l),[]) :=
  nil_s rfl (fun h => c1_E l hl (by rintro rfl;exact h rfl)) (fun h => by have : l = [] := (by simpa [ets] using h);subst this;exact c2_E) (fun h => by have : l = [] := (by simpa [ets] using h);subst this;exact c3_E)
abbrev putE : List Er → Er → List Er := putG ltE addE
theorem l_runE (S : List Er) (hS : Srt ltE 0 S.length S) (hl : S.length < 2000000) (hn : ∀ i,i < S.length → IntKind.i64.wrap (nth S i).w = (nth S i).w) : ∀ x : Nat × (List Er),(x.1 ≤ S.length ∧ (S.take x.1).foldl putE [] = x.2) → ∀ s,normE 1 (some [4,5,13,14,15]) s = ⟨[(4,.ref 1 0 S.length),(5,.ref 2 0 x.2.length),(13,.ref 1 0 S.length),(14,.int .i64 S.length),(15,.int .i64 x.1)],[(1,⟨false,false,2,ers S,0⟩),(2,⟨false,false,2,erT x.2,0⟩)],3⟩ →
 oc.loop 93 4 s = some (.exit 0,⟨[(5,.ref 1 0 (S.foldl putE []).length)],[(1,⟨false,false,2,erT (S.foldl putE []),0⟩)],2⟩) := by
 refine loop_ind (σ:=Nat × (List Er)) (fun x => S.length - x.1) _ (fun x => ⟨[(4,.ref 1 0 S.length),(5,.ref 2 0 x.2.length),(13,.ref 1 0 S.length),(14,.int .i64 S.length),(15,.int .i64 x.1)],[(1,⟨false,false,2,ers S,0⟩),(2,⟨false,false,2,erT x.2,0⟩)],3⟩) _ ?_
 rintro ⟨i,out⟩ hi ih s hs
 simp only at hi
 refine loop_s cd93 rfl rfl hs ?_
 obtain ⟨hi1,hi2⟩ := hi
 have hol : out.length ≤ i := by have := foldG_len (lt:=ltE) (add:=addE) (S:=S.take i) (acc:=[]);rw [hi2] at this;simp at this;omega
 refine wa_ (wc_region (w_ (b_ (h:=wo_nil (e_ (h:=aft_normal (wa_ (?_))))))))
 refine c_ (h1:=?_) (h2:=?_)
 rotate_right 1
 focus
  intro c1
  first
  | exact dn c1
  | (
   have d1 := c1;try simp at d1
   refine wc_exit (?_)
   )
 rotate_right 1
 focus
  intro c1
  first
  | exact dn c1
  | (
   have d1 := c1;try simp at d1
   have hi : i < S.length := (by simp at c1;omega);have hw := wrap_succ (i:=i) (by omega);have g1 : (ers S)[i]? = some ((nth S i).e.v false) := ers_nth hi;have g2 : (ers S)[i - 1]? = some ((nth S (i - 1)).e.v false) := ers_nth (by omega)
   refine wc_skip (?_)
   )
 all_goals first
 | refine aft_exit ?_
 | (
  refine aft_normal ?_
  refine wa_ (wc_block (wa_ (wc_region (w_ (m_ (h:=w_ (x_ (h:=w_ (l_ (h:=w_ (al (h:=w_ (a_ (h:=w0 (s_ (h:=wo_nil (e_ (h:=aft_normal (?_)))))))))))))))))))
  refine wa_ (wa_ (wc_draw (y_ (m_ (h:=ax_ (h:=y_ (bE (h:=ax_ (h:=y_ (m_ (h:=ax_ (h:=?_))))))))))))
  refine gw_ (h1:=?_) (h2:=?_)
  rotate_right 1
  focus
   intro c2
   first
   | exact dn c2
   | (
    have d2 := c2;try simp at d2
    refine gd_ (h:=gd_ (h:=gd_ (h:=gd_ (h:=gd_ (h:=gd_ (h:=gd_ (h:=gd_ (h:=?_))))))))
    )
  rotate_right 1
  focus
   intro c2
   first
   | exact dn c2
   | (
    have d2 := c2;try simp at d2
    refine g_ (h:=y_ (m_ (h:=ax_ (h:=g_ (h:=y_ (m_ (h:=ax_ (h:=g_ (h:=y_ (?_))))))))))
    refine b_ (hv:=iv_sub (c:=i - 1) (by omega) (by omega)) (h:=?_)
    refine ax_ (h:=g_ (h:=y_ (x_ (h:=ax_ (h:=g_ (h:=y_ (l_ (h:=ax_ (h:=g_ (h:=y_ (l_ (h:=ax_ (h:=g_ (h:=y_ (ca (hc:=e_byE (nth S (i - 1)) (nth S i)) (h:=ax_ (h:=g_ (h:=y_ (bE (h:=ax_ (h:=?_)))))))))))))))))))))
    )
  all_goals
   refine y_ (pk (h:=ax_ (h:=wo_nil (ed (h:=?_)))))
  all_goals first
  | (
   refine aft_normal ?_
   refine c_ (h1:=?_) (h2:=?_)
   rotate_right 1
   focus
    intro c3
    first
    | exact dn c3
    | (
     have d3 := c3;try simp at d3
     have e3 : 0 < i ∧ byE (nth S (i - 1)) (nth S i) = 0 := (by simp at c2 c3;omega);obtain ⟨init,x,ho,hold,_⟩ := runG_old U_ltE hS hi e3.1 (by rw [ltE_f];have := e3.2;unfold byE at this;omega);obtain rfl : out = init ++ [x] := hi2.symm.trans ho;have hil : init.length < 2000000 := (by rw [List.length_append] at hol;omega);obtain ⟨L,hL⟩ : ∃ L,L = init.length := ⟨_,rfl⟩;have g3 : (erT (init ++ [x]))[L]? = some (V.agg [.lst true 1 (ints x.row),.int .i64 x.w]) := (by subst hL;simp [erT,ets,Et.v,Er.e,lz]);have g4 : (erT (init ++ [x])).set L (V.agg [.lst true 1 (ints x.row),.int .i64 (IntKind.i64.wrap (x.w + (nth S i).w))]) = erT (init ++ [addE x (nth S i)]) := (by subst hL;simp [erT,ets,Et.v,Er.e,addE,lz])
     refine wc_skip (?_)
     )
   rotate_right 1
   focus
    intro c3
    first
    | exact dn c3
    | (
     have d3 := c3;try simp at d3
     have e3 : i = 0 ∨ byE (nth S (i - 1)) (nth S i) ≠ 0 := (by first | (left;simp at c2;omega) | (right;simpa using c3));have hnew := runG_new U_ltE hS hi (e3.imp id (fun h => run_ltE hS hi h));rw [hi2] at hnew;obtain ⟨L,hL⟩ : ∃ L,L = out.length := ⟨_,rfl⟩;have hrow := (nth S i).ok;have g3 : (erT out ++ [V.agg [.lst true 1 (ints (nth S i).row),.int .i64 0]])[L]? = some (V.agg [.lst true 1 (ints (nth S i).row),.int .i64 0]) := (by subst hL;rw [List.getElem?_append_right (by simp)];simp);have g4 : (erT out ++ [V.agg [.lst true 1 (ints (nth S i).row),.int .i64 0]]).set L (V.agg [.lst true 1 (ints (nth S i).row),.int .i64 (nth S i).w]) = erT (out ++ [nth S i]) := (by subst hL;rw [List.set_append_right _ _ (by simp)];simp [erT,ets,Et.v,Er.e,lz]);have hn0 := hn i hi
     refine wc_region (w_ (m_ (h:=w_ (f_ (h:=w_ (l_ (h:=w_ (ca (hc:=e_cloneI (nth S i).row hrow) (h:=w_ (bd (h:=w_ (bs (h:=w_ (ap (h:=w_ (a_ (h:=wo_nil (e_ (h:=?_)))))))))))))))))))
     )
   )
  all_goals first
  | (
   refine aft_normal ?_
   refine wc_draw (y_ (m_ (h:=ax_ (h:=y_ (m_ (h:=ax_ (h:=y_ (le (h:=ax_ (h:=y_ (?_)))))))))))
   refine b_ (hv:=iv_sub (c:=L) (by simp;omega) (by omega)) (h:=?_)
   refine ax_ (h:=y_ (x_ (h:=ax_ (h:=y_ (f_ (h:=ax_ (h:=y_ (l_ (h:=ax_ (h:=y_ (f_ (h:=ax_ (h:=y_ (l_ (h:=ax_ (h:=y_ (b_ (h:=ax_ (h:=y_ (x_ (h:=ax_ (h:=y_ (f_ (h:=ax_ (h:=y0 (s_ (h:=ax_ (h:=wo_nil (ed (h:=?_))))))))))))))))))))))))))))))
   )
  all_goals refine blk_normal ?_
  all_goals first
  | (
   refine aft_normal ?_
   refine wc_region (w_ (b_ (h:=w_ (m_ (h:=wo_nil (e_ (h:=?_)))))))
   )
  )
 all_goals first
 | (refine (ih ((i + 1,out ++ [nth S i])) (⟨by simp only;omega,by simp only;rw [hnew]⟩) ?_ _ ?_).trans ?_;(focus (first | omega | (simp;done) | (simp;omega)));(focus (simp [normE,hw,g4,hn0,Er.e];done));(focus (rfl)))
 | (refine (ih ((i + 1,init ++ [addE x (nth S i)])) (⟨by simp only;omega,by simp only;rw [hold]⟩) ?_ _ ?_).trans ?_;(focus (first | omega | (simp;done) | (simp;omega)));(focus (simp [normE,hw,g4,Er.e];done));(focus (rfl)))
 | (apply end_leaf (ex:=(Ext.exit 0)) 1 (some [5]);(focus (simp [normE];rfl));(focus (rw [← hi2,List.take_of_length_le (by simp at c1;omega)])))
def sumA (t : List Er) : List Er × Int := if t.any badE = true then ([],8) else if 200 < (t.filter isUE).length then ([],2) else (t.filter isUE,0)
theorem any_fltE : ∀ (t : List Er),(t.filter isUE).any badE = t.any badE
  | [] => rfl
  | c :: t => by
    have ih := any_fltE t
    rw [List.filter_cons,List.any_cons]
    by_cases h : isUE c = true
    · rw [if_pos h,List.any_cons,ih]
    · rw [if_neg h,ih]
      have h0 : c.w = 0 := by simpa [isUE] using h
      have : badE c = false := by simp [badE,h0,inI]
      rw [this];rfl
theorem e_summed (l : List Er) (hl : l.length < 1000000) (hn : ∀ x ∈ l,IntKind.i64.wrap x.w = x.w) : oc.call 93 [.lst false 0 (ers l)] = some (.tup [.lst true 2 (erT (sumA (l.foldl putE [])).1),.int .i64 (sumA (l.foldl putE [])).2],[]) := by
 refine fun_s rfl cd93 rfl rfl rfl (by simp;rfl) (by simp;rfl) ?_
 have hpp := (stb_ok O_ltE l).1
 have hse := putG_perm U_ltE hpp []
 obtain ⟨T,hT⟩ : ∃ T,l.foldl putE [] = T := ⟨_,rfl⟩
 have hse := hse.trans hT
 have hTl : T.length < 1000000 := by have := foldG_len (lt:=ltE) (add:=addE) (S:=l) (acc:=[]);rw [hT] at this;simp at *;omega
 have hFl : (T.filter isUE).length < 1000000 := Nat.lt_of_le_of_lt (List.length_filter_le _ _) hTl
 have hrun := l_runE (stb ltE l) (by have := (stb_ok O_ltE l).2;rwa [← hpp.length_eq] at this) (by rw [hpp.length_eq];omega) (fun i hi => hn _ (hpp.mem_iff.1 (nth_mem hi))) (0,[]) ⟨by simp,by simp⟩
 rw [hse] at hrun
 have hpl : (stb ltE l).length = l.length := hpp.length_eq
 have hcl : oc.call 174 [.lst false 0 (ers l)] = some (.lst true 2 (ers l),[]) := e_cloneE (l.map Er.e) (by simp;omega)
 have hsh : ∀ q,V.shareL (erT q) = ers q := fun q => by simp [erT,ers]
 refine wa_ (wc_region (w_ (aN (h:=w_ (a_ (h:=wo_nil (e_ (h:=aft_normal (wa_ (wc_region (w_ (m_ (h:=w_ (ca (hc:=hcl) (h:=w_ (bs (h:=w_ (a_ (h:=?_)))))))))))))))))))
 refine w_ (a_ (h:=wo_nil (e_ (h:=aft_normal (wa_ (wc_region (w_ (m_ (h:=w_ (?_))))))))))
 refine cI (hc:=e_stab_E l (by omega)) (hal:=ers_alk hpp.length_eq.symm) (h:=?_)
 refine wo_nil (e_ (h:=aft_normal (wa_ (wa_ (wc_region (w_ (m_ (h:=w_ (le (h:=w_ (m_ (h:=wo_nil (e_ (h:=aft_normal (wc_block (?_))))))))))))))))
 refine wc_loop (hrun _ (by simp [normE,hpl,erT])) ?_
 refine blk_exit (aft_normal (wa_ (wc_region (w_ (m_ (h:=w_ (?_)))))))
 refine caT (hc:=e_delUE T (by omega)) (h:=?_)
 refine w_ (a_ (h:=wo_nil (e_ (h:=aft_normal (wa_ (wc_block (wa_ (wc_region (w_ (m_ (h:=w_ (ca (hc:=e_any_BigE (T.filter isUE) badE (by omega) (fun x _ => e_rf2E x)) (h:=w_ (a_ (h:=wo_nil (e_ (h:=aft_normal (?_))))))))))))))))))
 refine c_ (h1:=?_) (h2:=?_)
 rotate_right 1
 focus
  intro c1
  first
  | exact dn c1
  | (
   have d1 := c1;try simp at d1
   refine wa_ (wc_region (w_ (m_ (h:=w_ (le (h:=w_ (b_ (h:=w_ (a_ (h:=wo_nil (e_ (h:=aft_normal (?_)))))))))))))
   refine c_ (h1:=?_) (h2:=?_)
   rotate_right 1
   focus
    intro c2
    first
    | exact dn c2
    | (
     have d2 := c2;try simp at d2
     refine wc_skip (?_)
     )
   rotate_right 1
   focus
    intro c2
    first
    | exact dn c2
    | (
     have d2 := c2;try simp at d2
     refine wa_ (wc_region (w_ (aN (h:=w_ (a_ (h:=wo_nil (e_ (h:=aft_normal (wc_ret (?_))))))))))
     )
   )
 rotate_right 1
 focus
  intro c1
  first
  | exact dn c1
  | (
   have d1 := c1;try simp at d1
   refine wa_ (wc_region (w_ (aN (h:=w_ (a_ (h:=wo_nil (e_ (h:=aft_normal (wc_ret (?_))))))))))
   )
 all_goals first | refine blk_normal ?_ | refine blk_ret ?_
 all_goals first
 | refine aft_ret ?_
 | (
  refine aft_normal ?_
  refine wa_ (wc_region (w_ (m_ (h:=w_ (a_ (h:=w_ (a_ (h:=wo_nil (e_ (h:=aft_normal (wc_ret (?_))))))))))))
  )
 all_goals (refine fin_ (hr:=(res_tmp rfl (res_tmp rfl res_nil))) (h:=?_);(focus (rw [hT];unfold sumA;rw [← any_fltE];first | (simp [*];done) | (rw [if_neg (by simp [*]),if_pos (by first | assumption | omega | (simp at *;omega))];simp;done) | (rw [if_neg (by simp [*]),if_neg (by first | assumption | omega | (simp at *;omega))];simp;done))))
end Go.Proofs.Ytgkbmiaimjpbfaa.Ev
namespace Go.Proofs.Ytgkbmiaimjpbfaa.Ev
open Go
set_option maxRecDepth 100000
set_option linter.unusedSimpArgs false
set_option linter.unusedVariables false
set_option maxHeartbeats 2000000
section
variable {id base : Nat} {e : List (Nat × V)} {o : List (Nat × Ob)} {n : Nat} {t : TypeId} {K : V → List (Nat × Ob) → Prop}
theorem caU {args : Array Operand} {ts : Array TypeId} {fo : Operand} {f : FuncId} {q m sz : Nat} {ys : List V} {v : V} {ob : Ob} {o1 : List (Nat × Ob)} {id' : Nat} (hx : opsV e args.toList = some [.ref q 0 m,v] := by exact rfl) (hf : opV e fo = some (.clo f []) := by exact rfl) (hB : cf.inB f = false := by (rw [cf_in];rfl)) (hmd : cf.md f = [.take] := by (rw [cf_md];rfl)) (ho : geta o q = some ob := by exact rfl) (hb : ob.bx = false := by rfl) (hfx : ob.fx = false := by rfl) (hm : m = ob.xs.length := by first | rfl | simp) (hd : dela o q = o1 := by (simp;rfl))
    (hv : v.isTup = false := by first | rfl | simp) (hvm : v.mention = [] := by first | rfl | simp) (hvs : ∀ s : St,V.snapA s v = some v := by intro s;first | rfl | simp)
    (hc : oc.call f [.lst true ob.sz ob.xs,v] = some (.lst true sz ys,[])) (hid : id = id' := by ((try simp);rfl)) (h : K (.ref id' 0 ys.length) ((id',⟨false,false,sz,ys,0⟩) :: o1)) : opK oc.call cf id base e o n t (.call ⟨.value fo,args,ts⟩) K := by
  subst hd hm hid
  refine ⟨_,_,?_,h⟩
  have hg : St.give ⟨e,o,n⟩ q 0 ob.xs.length = some (ob.sz,ob.xs,⟨e,dela o q,n⟩) := by
    simp only [St.give,ho,hb,hfx,Nat.zero_add,Nat.le_refl,and_self,if_true,List.drop_zero,List.take_length]
  have hz : V.fz (.ref q 0 ob.xs.length) ⟨e,o,n⟩ = some (.lst true ob.sz ob.xs,⟨e,dela o q,n⟩) := by
    simp only [V.fz,hg,mp_some]
  have hs : V.snapA ⟨e,dela o q,n⟩ v = some v := hvs _
  simp only [opE,hx,hf,V.capsOk,if_true,hB,Bool.false_eq_true,if_false,List.append_nil,callV,hmd,lendV,lendOne,List.headD_cons,List.tail_cons,List.headD_nil,List.tail_nil,hz,V.argOk,hv,snapsV,hs,mp_some,hc,plainM,hvm,List.isEmpty_nil,true_or,V.thaw,true_and,backs,List.nil_append,List.singleton_append]
  rw [if_pos (by omega)]
end
@[simp] theorem moveL_0 (xs : List V) : moveL 0 0 xs = xs := by cases xs <;> rfl
theorem moveL_drop : ∀ (p : Nat) (xs : List V),(moveL 0 p xs).drop p = xs.drop p
  | 0,xs => by rw [moveL_0]
  | p + 1,[] => rfl
  | p + 1,x :: r => by simp only [moveL,List.drop_succ_cons,moveL_drop p r]
attribute [simp] moveL_len
@[simp] theorem erT_cells (l : List Er) : V.cellsAll 2 (erT l) = true := by
  induction l with
  | nil => rfl
  | cons x r ih =>
    show (decide (V.cells _ = 2) && V.cellsAll 2 (erT r)) = true
    rw [ih];rfl
@[simp] theorem erT_drop (n : Nat) (l : List Er) : (erT l).drop n = erT (l.drop n) := by simp [erT]
theorem erT_app (l m : List Er) : erT (l ++ m) = erT l ++ erT m := by simp [erT]
theorem erT_cons (c : Er) (l : List Er) : erT (c :: l) = V.agg [.lst true 1 (ints c.row),.int .i64 c.w] :: erT l := rfl
theorem erT_one (c : Er) : erT [c] = [V.agg [.lst true 1 (ints c.row),.int .i64 c.w]] := rfl
theorem erT_get {l : List Er} {i : Nat} (h : i < l.length) : ∃ x,nth l i = x ∧ l.drop i = x :: l.drop (i + 1) ∧ (erT l)[i]? = some (V.agg [.lst true 1 (ints x.row),.int .i64 x.w]) := by
  refine ⟨l[i],by simp [nth,h],List.drop_eq_getElem_cons h,?_⟩
  simp [erT,ets,h,Et.v,Er.e,lz]
theorem erT_set {l : List Er} {i : Nat} {x : Er} {w : Int} : (erT l).set i (V.agg [.lst true 1 (ints x.row),.int .i64 w]) = erT (l.set i ⟨x.row,w,x.ok⟩) := by simp [erT,List.map_set,Er.e]
theorem fzL_mvE {v w : V} {s s' : St} (h : V.fz v s = some (w,s')) : V.fzL ([((0 : Nat),v)].map (·.2)) s = some ([w],s') := by simp [V.fzL,h,mp]
theorem l_l2p (l : List Er) (c : Er) (hq : l.length < 2000000) : ∀ j : Nat,(j ≤ l.length) → ∀ s,normE 2 (some [0,3,5]) s = ⟨[(0,.ref 0 0 l.length),(3,.ptr 2 0 []),(5,.int .i64 j)],[(0,⟨false,false,2,erT l,0⟩),(2,⟨true,false,2,[c.e.v false],0⟩)],3⟩ →
 oc.loop 173 2 s = some (.exit 0,⟨[(0,.ref 0 0 l.length),(3,.ptr 2 0 []),(5,.int .i64 (j + posG ltE (l.drop j) c : Nat))],[(0,⟨false,false,2,erT l,0⟩),(2,⟨true,false,2,[c.e.v false],0⟩)],3⟩) := by
 refine loop_ind (σ:=Nat) (fun j => l.length - j) _ (fun j => ⟨[(0,.ref 0 0 l.length),(3,.ptr 2 0 []),(5,.int .i64 j)],[(0,⟨false,false,2,erT l,0⟩),(2,⟨true,false,2,[c.e.v false],0⟩)],3⟩) _ ?_
 intro j hi ih s hs
 refine loop_s cd173 rfl rfl hs ?_
 refine wa_ (wa_ (wc_draw (y_ (m_ (h:=ax_ (h:=y_ (m_ (h:=ax_ (h:=y_ (le (h:=ax_ (h:=y_ (b_ (h:=ax_ (h:=y_ (m_ (h:=ax_ (h:=?_))))))))))))))))))
 refine gw_ (h1:=?_) (h2:=?_)
 rotate_right 1
 focus
  intro c1
  first
  | exact dn c1
  | (
   have d1 := c1;try simp at d1
   refine gd_ (h:=gd_ (h:=gd_ (h:=gd_ (h:=gd_ (h:=gd_ (h:=gd_ (h:=gd_ (h:=gd_ (h:=?_)))))))))
   )
 rotate_right 1
 focus
  intro c1
  first
  | exact dn c1
  | (
   have d1 := c1;try simp at d1
   have hj : j < l.length := (by simp at c1;omega);have hw := wrap_succ (i:=j) (by omega);obtain ⟨x,hnx,e1,g1⟩ := erT_get hj
   refine g_ (h:=y_ (m_ (h:=ax_ (h:=g_ (h:=y_ (m_ (h:=ax_ (h:=g_ (h:=y_ (x_ (h:=ax_ (h:=g_ (h:=y_ (f_ (h:=ax_ (h:=g_ (h:=y_ (l_ (h:=ax_ (h:=g_ (h:=y_ (f_ (h:=ax_ (h:=g_ (h:=y_ (l_ (h:=ax_ (h:=g_ (h:=y_ (?_))))))))))))))))))))))))))))))
   refine ca (hsr:=by first | rfl | (simp [g1,Er.e];done)) (hc:=e_cmpRS x.row c.row x.ok c.ok) (h:=?_)
   refine ax_ (h:=g_ (h:=y_ (b_ (h:=ax_ (h:=?_)))))
   )
 all_goals
  refine y_ (pk (h:=ax_ (h:=wo_nil (ed (h:=?_)))))
 all_goals first
 | (
  refine aft_normal ?_
  refine c_ (h1:=?_) (h2:=?_)
  rotate_right 1
  focus
   intro c2
   first
   | exact dn c2
   | (
    have d2 := c2;try simp at d2
    refine wc_exit (?_)
    )
  rotate_right 1
  focus
   intro c2
   first
   | exact dn c2
   | (
    have d2 := c2;try simp at d2
    refine wc_skip (?_)
    )
  )
 all_goals first
 | refine aft_exit ?_
 | (
  refine aft_normal ?_
  refine wc_block (wc_region (w_ (m_ (h:=w_ (b_ (h:=w_ (a_ (h:=wo_nil (e_ (h:=blk_normal (?_)))))))))))
  )
 all_goals first
 | (apply end_leaf (ex:=(Ext.exit 0)) 2 (some [0,3,5]);(focus (simp [normE];rfl));(focus (first | (rw [List.drop_eq_nil_of_le (by simp at c1;omega)];rfl) | (rw [e1,posG_f (by rw [ltE_f];simpa using d2)];rfl))))
 | (refine (ih (j + 1) (by omega) ?_ _ ?_).trans ?_;(focus (first | omega | (simp;done) | (simp;omega)));(focus (simp [normE,hw];done));(focus (rw [e1,posG_t (by rw [ltE_t];simpa using d2),show j + (posG ltE (l.drop (j + 1)) c + 1) = j + 1 + posG ltE (l.drop (j + 1)) c by omega])))
theorem e_l2Put (l : List Er) (c : Er) (hq : l.length < 1900000) : oc.call 173 [.lst true 2 (erT l),c.e.v false] = some (.lst true 2 (erT (putE l c)),[]) := by
 refine fun_s rfl cd173 rfl rfl rfl (by simp;rfl) (by simp;rfl) ?_
 have hls := l_l2p l c (by omega) 0 (by omega)
 simp only [List.drop_zero,Nat.zero_add] at hls
 obtain ⟨p,hp⟩ : ∃ p,posG ltE l c = p := ⟨_,rfl⟩
 rw [hp] at hls
 have hpl : p ≤ l.length := by rw [← hp];exact posG_le (lt:=ltE) l c
 have hpn : p < l.length → ltE (nth l p) c = false := fun h => by have := posG_no (lt:=ltE) l c (by rw [hp];exact h);rwa [hp] at this
 refine wa_ (wc_region (w_ (bx (h:=w_ (aN (h:=wo_nil (e_ (h:=aft_normal (wa_ (wc_region (w_ (a_ (h:=wo_nil (e_ (h:=aft_normal (wa_ (?_)))))))))))))))))
 refine wc_block (?_)
 refine wc_loop (hls _ (by simp [normE])) ?_
 refine blk_exit (aft_normal (wa_ (wa_ (wc_draw (y_ (m_ (h:=ax_ (h:=y_ (m_ (h:=ax_ (h:=y_ (le (h:=ax_ (h:=y_ (b_ (h:=ax_ (h:=y_ (m_ (h:=ax_ (h:=?_))))))))))))))))))))
 refine gw_ (h1:=?_) (h2:=?_)
 rotate_right 1
 focus
  intro c1
  first
  | exact dn c1
  | (
   have d1 := c1;try simp at d1
   refine gd_ (h:=gd_ (h:=gd_ (h:=gd_ (h:=gd_ (h:=gd_ (h:=gd_ (h:=gd_ (h:=gd_ (h:=?_)))))))))
   )
 rotate_right 1
 focus
  intro c1
  first
  | exact dn c1
  | (
   have d1 := c1;try simp at d1
   have hpq : p < l.length := (by simp at c1;omega);obtain ⟨x,hnx,e1,g1⟩ := erT_get hpq;have hxc := hpn hpq;rw [hnx,ltE_f] at hxc
   refine g_ (h:=y_ (m_ (h:=ax_ (h:=g_ (h:=y_ (m_ (h:=ax_ (h:=g_ (h:=y_ (x_ (h:=ax_ (h:=g_ (h:=y_ (f_ (h:=ax_ (h:=g_ (h:=y_ (l_ (h:=ax_ (h:=g_ (h:=y_ (f_ (h:=ax_ (h:=g_ (h:=y_ (l_ (h:=ax_ (h:=g_ (h:=y_ (?_))))))))))))))))))))))))))))))
   refine ca (hsr:=by first | rfl | (simp [g1,Er.e];done)) (hc:=e_cmpRS x.row c.row x.ok c.ok) (h:=?_)
   refine ax_ (h:=g_ (h:=y_ (bE (h:=ax_ (h:=?_)))))
   )
 all_goals
  refine y_ (pk (h:=ax_ (h:=wo_nil (ed (h:=?_)))))
 all_goals first
 | (
  refine aft_normal ?_
  refine c_ (h1:=?_) (h2:=?_)
  rotate_right 1
  focus
   intro c2
   first
   | exact dn c2
   | (
    have d2 := c2;try simp at d2
    have k1 : p < l.length → ltE c (nth l p) = true := (fun h => by first | (exfalso;simp at c1;omega) | (rw [hnx,ltE_t,cmpL_anti];first | omega | (simp at d2;omega)));have k2 : putE l c = l.take p ++ [c] ++ l.drop p := (by have := putG_in (lt:=ltE) (add:=addE) l c (by rw [hp];exact k1);rw [hp] at this;exact this);have hroc := c.ok;have km : min p l.length = p := (by omega);have kl : 1 + l.length = l.length + 1 := Nat.add_comm ..;have kq : p + 1 + (l.length - p) = p + (l.length - p + 1) := (by omega);have k9 : (l.drop p).take (l.length - p) = l.drop p := (by rw [List.take_of_length_le (by simp)]);have kmd := moveL_drop p (erT l);have kA : l.take l.length = l := List.take_of_length_le (by simp);have kB : (l.take p).take p = l.take p := (by rw [List.take_take,Nat.min_self]);have kC : (erT (l.take p) ++ [V.agg [.lst true 1 (ints c.row),.int .i64 c.w]]).take (p + 1) = erT (l.take p) ++ [V.agg [.lst true 1 (ints c.row),.int .i64 c.w]] := List.take_of_length_le (by simp;omega);have kD : (erT (l.take p) ++ V.agg [.lst true 1 (ints c.row),.int .i64 c.w] :: erT (l.drop p)).take (p + (l.length - p + 1)) = erT (l.take p) ++ V.agg [.lst true 1 (ints c.row),.int .i64 c.w] :: erT (l.drop p) := List.take_of_length_le (by simp;omega);have kE : (erT l ++ [V.agg [.lst true 1 (ints c.row),.int .i64 c.w]]).take (l.length + 1) = erT l ++ [V.agg [.lst true 1 (ints c.row),.int .i64 c.w]] := List.take_of_length_le (by simp);have kF : l.drop l.length = [] := List.drop_eq_nil_of_le (by simp);have kM : p = 0 → moveL 0 p (erT l) = erT l := (fun e => by rw [e,moveL_0]);rcases (show p = 0 ∨ (0 < p ∧ p < l.length) ∨ (0 < p ∧ p = l.length) by omega) with hp0 | hp0 | hp0
    all_goals
     refine wc_skip (?_)
    )
  rotate_right 1
  focus
   intro c2
   first
   | exact dn c2
   | (
    have d2 := c2;try simp at d2
    have k1 : ltE c x = false := (by rw [ltE_f,cmpL_anti,show cmpL x.row c.row = 0 by simpa using d2];decide);have k2 : putE l c = l.set p (addE x c) := (by have := putG_at (lt:=ltE) (add:=addE) l c (by rw [hp];exact hpq) (by rw [hp,hnx];exact k1);rw [hp,hnx] at this;exact this);have kz : ∀ y,(l.set p y).take l.length = l.set p y := (fun y => List.take_of_length_le (by simp))
    refine wa_ (wc_draw (y_ (m_ (h:=ax_ (h:=y_ (m_ (h:=ax_ (h:=y_ (m_ (h:=ax_ (h:=y_ (m_ (h:=ax_ (h:=y_ (x_ (h:=ax_ (h:=y_ (f_ (h:=ax_ (h:=y_ (l_ (h:=ax_ (h:=y_ (f_ (h:=ax_ (h:=y_ (l_ (h:=ax_ (h:=y_ (b_ (h:=ax_ (h:=?_))))))))))))))))))))))))))))))))
    refine y_ (x_ (h:=ax_ (h:=y_ (f_ (h:=ax_ (h:=y0 (s_ (h:=ax_ (h:=wo_nil (ed (h:=aft_normal (wa_ (wc_region (w_ (m_ (h:=w_ (a_ (h:=wo_nil (e_ (h:=aft_normal (wc_ret (?_))))))))))))))))))))))
    )
  )
 all_goals first
 | refine aft_ret ?_
 | (
  refine aft_normal ?_
  refine wa_ (wc_draw (y_ (bs (h:=ax_ (h:=y_ (m_ (h:=ax_ (h:=y_ (m_ (h:=ax_ (h:=y_ (sl (h:=ax_ (h:=y_ (?_)))))))))))))))
  refine ap (hel2:=if_pos (by first | omega | (simp;omega))) (h:=?_)
  refine ax_ (h:=y_ (f_ (h:=ax_ (h:=y_ (l_ (h:=ax_ (h:=y_ (ca (hc:=e_l2Row c.row hroc) (h:=ax_ (h:=y_ (f_ (h:=ax_ (h:=y_ (l_ (h:=ax_ (h:=y_ (bd (h:=ax_ (h:=y_ (bs (h:=ax_ (h:=y_ (ap (h:=ax_ (h:=y_ (m_ (h:=ax_ (h:=y_ (m_ (h:=ax_ (h:=y_ (?_))))))))))))))))))))))))))))))))
  first | refine sl (v:=.ref 0 p (l.length - p)) (hv:=cut_tailQ rfl (by omega) (by omega) rfl rfl) (h:=?_) | refine sl (v:=.lst false 0 []) (hv:=cut_end rfl (by omega) (by omega)) (h:=?_) | refine sl (v:=.ref 0 0 l.length) (hv:=cut_zero rfl (by omega)) (h:=?_)
  refine ax_ (h:=y_ (?_))
  first | refine ap (hel:=by (simp [kmd];rfl)) (hel2:=if_pos (by first | omega | (simp;omega))) (h:=?_) | refine ap (hel:=by (simp [moveL_0,hp0];rfl)) (h:=?_) | refine ap (h:=?_)
  refine ax_ (h:=y_ (a_ (h:=ax_ (h:=wo_nil (ed (h:=aft_normal (wc_ret (?_))))))))
  )
 all_goals (refine fin_ (hr:=(res_tmp rfl res_nil)) (h:=?_);(focus (first | (simp [k2,erT_set,kz,addE,Er.e,lz];done) | (rw [k2,erT_app,erT_app,erT_one];simp [km,kl,kq,k9,hp0,kA,kB,kC,kD,kE,kF,Er.e,Et.v,lz];done))))
theorem l_l2s (z : List Er) (hz : z.length < 1800000) : ∀ x : Nat × (List Er),(x.1 ≤ z.length ∧ x.2.length ≤ x.1) → ∀ s,normE 1 (some [0,4,5]) s = ⟨[(0,.lst false 0 (ers z)),(4,.ref 1 0 x.2.length),(5,.int .i64 x.1)],[(1,⟨false,false,2,erT x.2,0⟩)],2⟩ →
 oc.loop 91 3 s = some (.exit 0,⟨[(4,.ref 1 0 ((z.drop x.1).foldl putE x.2).length)],[(1,⟨false,false,2,erT ((z.drop x.1).foldl putE x.2),0⟩)],2⟩) := by
 refine loop_ind (σ:=Nat × (List Er)) (fun x => z.length - x.1) _ (fun x => ⟨[(0,.lst false 0 (ers z)),(4,.ref 1 0 x.2.length),(5,.int .i64 x.1)],[(1,⟨false,false,2,erT x.2,0⟩)],2⟩) _ ?_
 rintro ⟨i,q⟩ hi ih s hs
 simp only at hi
 refine loop_s cd91 rfl rfl hs ?_
 obtain ⟨hi1,hi2⟩ := hi
 refine wa_ (wa_ (wc_region (w_ (m_ (h:=w_ (m_ (h:=w_ (le (h:=w_ (b_ (h:=wo_nil (e_ (h:=aft_normal (?_))))))))))))))
 refine c_ (h1:=?_) (h2:=?_)
 rotate_right 1
 focus
  intro c1
  first
  | exact dn c1
  | (
   have d1 := c1;try simp at d1
   refine wc_exit (?_)
   )
 rotate_right 1
 focus
  intro c1
  first
  | exact dn c1
  | (
   have d1 := c1;try simp at d1
   have hj : i < z.length := (by simp at c1;omega);have hw := wrap_succ (i:=i) (by omega);obtain ⟨c,hx,e1,g1⟩ := ers_cut (l:=z) (i:=i) (by omega);have hpl := putG_len (lt:=ltE) (add:=addE) q c;change (putE q c).length ≤ _ at hpl
   refine wc_skip (?_)
   )
 all_goals first
 | refine aft_exit ?_
 | (
  refine aft_normal ?_
  refine wa_ (wc_block (wc_region (w_ (m_ (h:=w_ (m_ (h:=w_ (m_ (h:=w_ (x_ (h:=w_ (l_ (h:=w_ (?_))))))))))))))
  refine caU (hc:=e_l2Put q c (by omega)) (h:=?_)
  refine w_ (a_ (h:=wo_nil (e_ (h:=blk_normal (aft_normal (wc_region (w_ (m_ (h:=w_ (b_ (h:=w_ (a_ (h:=wo_nil (e_ (h:=?_)))))))))))))))
  )
 all_goals first
 | (apply end_leaf (ex:=(Ext.exit 0)) 1 (some [4]);(focus (simp [normE];rfl));(focus (rw [List.drop_eq_nil_of_le (by simp at c1;omega)];rfl)))
 | (refine (ih ((i + 1,putE q c)) (⟨by simp only;omega,by simp only;omega⟩) ?_ _ ?_).trans ?_;(focus (first | omega | (simp;done) | (simp;omega)));(focus (simp [normE,hw];done));(focus (rw [e1];rfl)))
def fltE : List Er → List Er → Bool × List Er
  | [],o => (false,o)
  | c :: r,o => if badE c = true then (true,o) else if c.w = 0 then fltE r o else fltE r (o ++ [c])
theorem fltE_b {c : Er} {r o : List Er} (h : badE c = true) : fltE (c :: r) o = (true,o) := by rw [fltE,if_pos h]
theorem fltE_z {c : Er} {r o : List Er} (h : badE c = false) (h0 : c.w = 0) : fltE (c :: r) o = fltE r o := by rw [fltE,if_neg (by simp [h]),if_pos h0]
theorem fltE_n {c : Er} {r o : List Er} (h : badE c = false) (h0 : ¬ c.w = 0) : fltE (c :: r) o = fltE r (o ++ [c]) := by rw [fltE,if_neg (by simp [h]),if_neg h0]
theorem fltE_eq : ∀ (t o : List Er),(fltE t o).1 = t.any badE ∧ (t.any badE = false → (fltE t o).2 = o ++ t.filter isUE)
  | [],o => by simp [fltE]
  | c :: t,o => by
    rw [List.any_cons,List.filter_cons]
    by_cases h : badE c = true
    · rw [fltE_b h];simp [h]
    · have hb : badE c = false := by simpa using h
      by_cases h0 : c.w = 0
      · rw [fltE_z hb h0,hb,if_neg (by simp [isUE,h0])];simpa using fltE_eq t o
      · rw [fltE_n hb h0,hb,if_pos (by simp [isUE,h0])];simpa using fltE_eq t (o ++ [c])
theorem erT_snoc (o : List Er) (x : Er) : erT o ++ [V.agg [.lst true 1 (ints x.row),.int .i64 x.w]] = erT (o ++ [x]) := by rw [erT_app,erT_one]
theorem l_l2f (q : List Er) (hq : q.length < 2000000) : ∀ x : Nat × (List V) × (List Er),(x.1 ≤ q.length ∧ x.2.1.length = q.length ∧ x.2.1.drop x.1 = erT (q.drop x.1) ∧ x.2.2.length ≤ x.1) → ∀ s,normE 1 (some [4,6,7]) s = ⟨[(4,.ref 1 0 q.length),(6,.ref 2 0 x.2.2.length),(7,.int .i64 x.1)],[(1,⟨false,false,2,x.2.1,0⟩),(2,⟨false,false,2,erT x.2.2,0⟩)],3⟩ →
 oc.loop 91 8 s = some (if (fltE (q.drop x.1) x.2.2).1 = true then (.ret,⟨[(2,.lst true 2 []),(3,.int .i64 8),(6,.ref 1 0 (fltE (q.drop x.1) x.2.2).2.length)],[(1,⟨false,false,2,erT (fltE (q.drop x.1) x.2.2).2,0⟩)],2⟩) else (.exit 2,⟨[(6,.ref 1 0 (fltE (q.drop x.1) x.2.2).2.length)],[(1,⟨false,false,2,erT (fltE (q.drop x.1) x.2.2).2,0⟩)],2⟩)) := by
 refine loop_ind (σ:=Nat × (List V) × (List Er)) (fun x => q.length - x.1) _ (fun x => ⟨[(4,.ref 1 0 q.length),(6,.ref 2 0 x.2.2.length),(7,.int .i64 x.1)],[(1,⟨false,false,2,x.2.1,0⟩),(2,⟨false,false,2,erT x.2.2,0⟩)],3⟩) _ ?_
 rintro ⟨i,R,o⟩ hi ih s hs
 simp only at hi
 refine loop_s cd91 rfl rfl hs ?_
 obtain ⟨hi1,hi2,hi3,hi4⟩ := hi
 refine wa_ (wa_ (wc_region (w_ (m_ (h:=w_ (m_ (h:=w_ (le (h:=w_ (b_ (h:=wo_nil (e_ (h:=aft_normal (?_))))))))))))))
 refine c_ (h1:=?_) (h2:=?_)
 rotate_right 1
 focus
  intro c1
  first
  | exact dn c1
  | (
   have d1 := c1;try simp at d1
   refine wc_exit (?_)
   )
 rotate_right 1
 focus
  intro c1
  first
  | exact dn c1
  | (
   have d1 := c1;try simp at d1
   have hj : i < q.length := (by simp at c1;omega);have hw := wrap_succ (i:=i) (by omega);obtain ⟨x,hnx,e1,_⟩ := erT_get hj;have g1 : R[i]? = some (V.agg [.lst true 1 (ints x.row),.int .i64 x.w]) := (by have := congrArg (fun r => r[0]?) hi3;rw [e1] at this;simpa [erT,ets,Et.v,Er.e,lz] using this);have e2 : R.drop (i + 1) = erT (q.drop (i + 1)) := (by have := congrArg (List.drop 1) hi3;rw [e1,erT_cons] at this;simpa using this);have hmt := erT_snoc o x
   refine wc_skip (?_)
   )
 all_goals first
 | refine aft_exit ?_
 | (
  refine aft_normal ?_
  refine wa_ (wc_block (wa_ (wa_ (wc_region (w_ (m_ (h:=w_ (m_ (h:=w_ (x_ (h:=w_ (f_ (h:=w_ (l_ (h:=w_ (ca (hc:=e_l1Weight _) (h:=w_ (u_ (h:=?_)))))))))))))))))))
  refine wo_nil (e_ (h:=aft_normal (?_)))
  refine c_ (h1:=?_) (h2:=?_)
  rotate_right 1
  focus
   intro c2
   first
   | exact dn c2
   | (
    have d2 := c2;try simp at d2
    refine wc_skip (?_)
    )
  rotate_right 1
  focus
   intro c2
   first
   | exact dn c2
   | (
    have d2 := c2;try simp at d2
    refine wa_ (wc_region (w_ (aN (h:=w_ (a_ (h:=wo_nil (e_ (h:=aft_normal (wc_ret (?_))))))))))
    )
  all_goals first
  | refine aft_ret ?_
  | (
   refine aft_normal ?_
   refine wa_ (wc_region (w_ (m_ (h:=w_ (m_ (h:=w_ (x_ (h:=w_ (f_ (h:=w_ (l_ (h:=w_ (bE (h:=wo_nil (e_ (h:=aft_normal (?_)))))))))))))))))
   refine c_ (h1:=?_) (h2:=?_)
   rotate_right 1
   focus
    intro c3
    first
    | exact dn c3
    | (
     have d3 := c3;try simp at d3
     refine wc_skip (?_)
     )
   rotate_right 1
   focus
    intro c3
    first
    | exact dn c3
    | (
     have d3 := c3;try simp at d3
     refine wc_region (w_ (m_ (h:=w_ (m_ (h:=w_ (m_ (h:=w_ (x_ (h:=w_ (l_ (h:=w_ (?_))))))))))))
     refine bs (hf:=fzL_mvE (fz_mvE rfl rfl g1 (by simp))) (h:=?_)
     refine w_ (ap (h:=w_ (a_ (h:=wo_nil (e_ (h:=?_))))))
     )
   )
  all_goals first | refine blk_normal ?_ | refine blk_ret ?_
  all_goals first
  | refine aft_ret ?_
  | (
   refine aft_normal ?_
   refine wc_region (w_ (m_ (h:=w_ (b_ (h:=w_ (a_ (h:=wo_nil (e_ (h:=?_)))))))))
   )
  )
 all_goals first
 | (apply end_leaf (ex:=(Ext.exit 2)) 1 (some [2,3,6]);(focus (simp [normE];rfl));(focus (rw [List.drop_eq_nil_of_le (by simp at c1;omega)];rfl)))
 | (apply end_leaf (ex:=Ext.ret) 1 (some [2,3,6]);(focus (simp [normE];rfl));(focus (rw [e1,fltE_b (by simpa [badE] using d2)];rfl)))
 | (refine (ih ((i + 1,R,o)) (⟨by simp only;omega,hi2,e2,by simp only;omega⟩) ?_ _ ?_).trans ?_;(focus (first | omega | (simp;done) | (simp;omega)));(focus (simp [normE,hw];done));(focus (rw [e1,fltE_z (by simpa [badE] using d2) (by simpa using d3)])))
 | (refine (ih ((i + 1,R.set i (.agg [.und,.int .i64 x.w]),o ++ [x])) (⟨by simp only;omega,by simpa using hi2,by simp only;rw [List.drop_set_of_lt (by omega)];exact e2,by simp;omega⟩) ?_ _ ?_).trans ?_;(focus (first | omega | (simp;done) | (simp;omega)));(focus (simp [normE,hw,hmt];done));(focus (rw [e1,fltE_n (by simpa [badE] using d2) (by simpa using d3)])))
theorem e_l2Set (z : List Er) (hz : z.length < 1800000) : oc.call 91 [.lst false 0 (ers z)] = some (.tup [.lst true 2 (erT (sumA (z.foldl putE [])).1),.int .i64 (sumA (z.foldl putE [])).2],[]) := by
 refine fun_s rfl cd91 rfl rfl rfl (by simp;rfl) (by simp;rfl) ?_
 obtain ⟨T,hT⟩ : ∃ T,z.foldl putE [] = T := ⟨_,rfl⟩
 have hTl : T.length < 1900000 := by have h2 := foldG_len (lt:=ltE) (add:=addE) (S:=z) (acc:=[]);change (z.foldl putE []).length ≤ _ at h2;rw [hT] at h2;simp at h2;omega
 have hl3 := l_l2s z hz (0,[]) ⟨by simp,by simp⟩
 have hl8 := l_l2f T (by omega) (0,erT T,[]) ⟨by simp,by simp,by simp,by simp⟩
 simp only [List.drop_zero,hT] at hl3 hl8
 obtain ⟨b,O,hbo⟩ : ∃ b O,fltE T [] = (b,O) := ⟨_,_,rfl⟩
 obtain ⟨q1,q2⟩ := fltE_eq T []
 rw [hbo] at hl8 q1 q2
 simp only [List.nil_append] at hl8 q1 q2
 have ha : sumA T = if b = true then ([],8) else if 200 < O.length then ([],2) else (O,0) := by cases b with | true => (unfold sumA;rw [← q1];try rfl) | false => (unfold sumA;rw [← q1,q2 q1.symm];try rfl)
 clear q1 q2 hbo
 refine wa_ (wc_region (w_ (aN (h:=w_ (a_ (h:=wo_nil (e_ (h:=aft_normal (wa_ (wc_region (w_ (bs (h:=w_ (a_ (h:=wo_nil (e_ (h:=aft_normal (?_))))))))))))))))))
 refine wa_ (wa_ (wc_region (w_ (a_ (h:=wo_nil (e_ (h:=aft_normal (wc_block (?_)))))))))
 refine wc_loop (hl3 _ (by simp [normE])) ?_
 refine blk_exit (aft_normal (wa_ (wc_region (w_ (bs (h:=w_ (a_ (h:=wo_nil (e_ (h:=aft_normal (wa_ (wa_ (wc_region (w_ (a_ (h:=?_))))))))))))))))
 refine wo_nil (e_ (h:=aft_normal (wc_block (?_))))
 refine wc_loopI (hl8 _ (by simp [normE])) ?_ ?_
 rotate_right 1
 focus
  intro c1
  first
  | exact dn c1
  | (
   have d1 := c1;try simp at d1
   skip
   )
 rotate_right 1
 focus
  intro c1
  first
  | exact dn c1
  | (
   have d1 := c1;try simp at d1
   skip
   )
 all_goals first | refine blk_ret ?_ | refine blk_exit ?_
 all_goals first
 | refine aft_ret ?_
 | (
  refine aft_normal ?_
  refine wa_ (wa_ (wc_region (w_ (m_ (h:=w_ (le (h:=w_ (b_ (h:=wo_nil (e_ (h:=aft_normal (?_))))))))))))
  refine c_ (h1:=?_) (h2:=?_)
  rotate_right 1
  focus
   intro c2
   first
   | exact dn c2
   | (
    have d2 := c2;try simp at d2
    refine wc_skip (?_)
    )
  rotate_right 1
  focus
   intro c2
   first
   | exact dn c2
   | (
    have d2 := c2;try simp at d2
    refine wa_ (wc_region (w_ (aN (h:=w_ (a_ (h:=wo_nil (e_ (h:=aft_normal (wc_ret (?_))))))))))
    )
  all_goals first
  | refine aft_ret ?_
  | (
   refine aft_normal ?_
   refine wa_ (wc_region (w_ (m_ (h:=w_ (a_ (h:=w_ (a_ (h:=wo_nil (e_ (h:=aft_normal (wc_ret (?_))))))))))))
   )
  )
 all_goals (refine fin_ (hr:=(res_tmp rfl (res_tmp rfl res_nil))) (h:=?_);(focus (rw [hT,ha];first | (simp [*];done) | (rw [if_neg (by simp [*]),if_pos (by first | assumption | omega | (simp at *;omega))];simp;done) | (rw [if_neg (by simp [*]),if_neg (by first | assumption | omega | (simp at *;omega))];simp;done))))
def ltT (a b : Et) : Bool := decide (cmpL a.row b.row < 0)
def addT (x c : Et) : Et := ⟨x.row,IntKind.i64.wrap (x.w + c.w)⟩
abbrev putT : List Et → Et → List Et := putG ltT addT
def badT (d : Et) : Bool := !inI d.w (-1000000000000) 1000000000000
def isUT (d : Et) : Bool := decide (¬ d.w = 0)
def sumB (t : List Et) : List Et × Int := if t.any badT = true then ([],8) else if 200 < (t.filter isUT).length then ([],2) else (t.filter isUT,0)
def sumZ (z : List Et) : List Et × Int := sumB (z.foldl putT [])
instance : Inhabited Et := ⟨⟨[],0⟩⟩
theorem ltT_e (a b : Er) : ltT a.e b.e = ltE a b := rfl
theorem putT_e : ∀ (l : List Er) (c : Er),(putE l c).map Er.e = putT (l.map Er.e) c.e
  | [],c => rfl
  | x :: r,c => by
    show (putG ltE addE (x :: r) c).map Er.e = putG ltT addT (x.e :: r.map Er.e) c.e
    rw [putG_cons,putG_cons,ltT_e,ltT_e]
    split
    · rw [List.map_cons];rw [show (putG ltE addE r c).map Er.e = _ from putT_e r c]
    · split <;> rfl
theorem foldT_e : ∀ (z l : List Er),(z.foldl putE l).map Er.e = (z.map Er.e).foldl putT (l.map Er.e)
  | [],_ => rfl
  | c :: z,l => by rw [List.foldl_cons,foldT_e z,putT_e];rfl
theorem sumB_e (t : List Er) : (sumA t).1.map Er.e = (sumB (t.map Er.e)).1 ∧ (sumA t).2 = (sumB (t.map Er.e)).2 := by
  have h1 : (t.map Er.e).any badT = t.any badE := by rw [List.any_map];rfl
  have h2 : (t.map Er.e).filter isUT = (t.filter isUE).map Er.e := by rw [List.filter_map];rfl
  unfold sumA sumB
  rw [h1,h2,List.length_map]
  split
  · exact ⟨rfl,rfl⟩
  · split <;> exact ⟨rfl,rfl⟩
theorem sumZ_e {r : List Er} : (sumA (r.foldl putE [])).1.map Er.e = (sumZ (r.map Er.e)).1 ∧ (sumA (r.foldl putE [])).2 = (sumZ (r.map Er.e)).2 := by
  have h := sumB_e (r.foldl putE [])
  rw [foldT_e] at h
  exact h
theorem e_sumI (z : List Et) (hl : z.length < 900000) (hr : ∀ x ∈ z,x.row.length < 2000000) (hn : ∀ x ∈ z,IntKind.i64.wrap x.w = x.w) : oc.call 93 [.lst false 0 (ets false z)] = some (.tup [.lst true 2 (ets true (sumZ z).1),.int .i64 (sumZ z).2],[]) := by
  obtain ⟨r,rfl⟩ := ers_of hr
  obtain ⟨h1,h2⟩ := sumZ_e (r:=r)
  have := e_summed r (by simp at hl;omega) (fun x hx => hn x.e (List.mem_map_of_mem hx))
  rw [← h1,← h2]
  exact this
theorem e_sumS (z : List Et) (hl : z.length < 1800000) (hr : ∀ x ∈ z,x.row.length < 2000000) : oc.call 91 [.lst false 0 (ets false z)] = some (.tup [.lst true 2 (ets true (sumZ z).1),.int .i64 (sumZ z).2],[]) := by
  obtain ⟨r,rfl⟩ := ers_of hr
  obtain ⟨h1,h2⟩ := sumZ_e (r:=r)
  have := e_l2Set r (by simp at hl;omega)
  rw [← h1,← h2]
  exact this
theorem setR_ok : ∀ {l : List Et} {p : Option Et},setR p l = 0 → (∀ x ∈ l,rowF x.row = 0 ∧ wOk x.w = true ∧ x.w ≠ 0) ∧ (match p with | some q => (q :: l).Pairwise (fun x y => ltT x y = true) | none => l.Pairwise (fun x y => ltT x y = true))
  | [],p,_ => by refine ⟨fun x hx => (by cases hx),?_⟩;cases p <;> simp
  | c :: r,p,h => by
    by_cases h0 : rowF c.row = 0
    · by_cases h1 : wOk c.w = false ∨ c.w = 0
      · rw [setR_3 h0 h1] at h;cases h
      · by_cases h2 : (p.elim false fun q => decide (0 ≤ cmpL q.row c.row)) = true
        · rw [setR_1 h0 h1 h2] at h;cases h
        · rw [setR_0 h0 h1 h2] at h
          obtain ⟨a,b⟩ := setR_ok h
          simp only at b
          have hc : wOk c.w = true := by
            cases e : wOk c.w
            · exact absurd (.inl e) h1
            · rfl
          refine ⟨fun x hx => ?_,?_⟩
          · rcases List.mem_cons.1 hx with rfl | hx
            · exact ⟨h0,hc,fun e => h1 (.inr e)⟩
            · exact a x hx
          · cases p with
            | none => exact b
            | some q =>
              simp only [Option.elim] at h2
              have hq : ltT q c = true := by simp [ltT];simpa using h2
              refine List.pairwise_cons.2 ⟨fun y hy => ?_,b⟩
              rcases List.mem_cons.1 hy with rfl | hy
              · exact hq
              · have h3 := (List.pairwise_cons.1 b).1 y hy
                simp only [ltT,decide_eq_true_eq] at *
                have h4 := cmpL_anti q.row y.row
                have h5 := cmpL_anti c.row y.row
                have h6 := cmpL_anti q.row c.row
                by_cases h7 : cmpL q.row y.row < 0
                · exact h7
                · have := cmpL_tr (z:=c.row) (y:=q.row) (x:=y.row) (by omega) (by omega)
                  omega
    · rw [setR_row h0] at h;exact absurd h h0
theorem setC_ok {z : List Et} (h : setC z = 0) : z.length ≤ 200 ∧ (∀ x ∈ z,rowF x.row = 0 ∧ wOk x.w = true ∧ x.w ≠ 0) ∧ z.Pairwise (fun x y => ltT x y = true) := by
  unfold setC at h
  split at h
  · cases h
  · exact ⟨by omega,setR_ok (p:=none) h⟩
theorem wOk_w {w : Int} (h : wOk w = true) : IntKind.i64.wrap w = w := by
  simp [wOk,inI] at h
  exact wrap_id (by omega) (by omega)
theorem putT_mem {P : Et → Prop} (ha : ∀ x c,P x → P c → P (addT x c)) {z : List Et} (h : ∀ x ∈ z,P x) : ∀ x ∈ z.foldl putT [],P x :=
  foldG_mem (lt:=ltT) (add:=addT) ha (S:=z) (acc:=[]) (fun x hx => by cases hx) h
theorem sumZ_ok {z : List Et} {n : Nat} (h : ∀ x ∈ z,x.row.length ≤ n) : (sumZ z).1.length ≤ 200 ∧ ∀ x ∈ (sumZ z).1,x.row.length ≤ n := by
  have hm := putT_mem (P:=fun x => x.row.length ≤ n) (fun x c hx _ => hx) h
  unfold sumZ sumB
  split
  · exact ⟨by simp,fun x hx => by cases hx⟩
  · split
    · exact ⟨by simp,fun x hx => by cases hx⟩
    · exact ⟨by simp only;omega,fun x hx => hm x ((List.mem_filter.1 hx).1)⟩
end Go.Proofs.Ytgkbmiaimjpbfaa.Ev
namespace Go.Proofs.Ytgkbmiaimjpbfaa.Ev
open Go
set_option maxRecDepth 100000
set_option linter.unusedSimpArgs false
set_option linter.unusedVariables false
set_option maxHeartbeats 2000000
def entW (c : List Int) (b : Nat) : Int := at0 [1,1,2,-1,IntKind.i64.wrap (nxtV c b 9 - 4)] (nxtV c (b + 1) 5)
def entD (c : List Int) (w a : Nat) : Et := ⟨rowD c w a,entW c (a + 6 * w)⟩
def entsD (c : List Int) (w : Nat) : Nat → Nat → List Et
  | 0,_ => []
  | k + 1,a => entD c w a :: entsD c w k (a + 6 * w + 2)
theorem entsD_len (c : List Int) (w : Nat) : ∀ (k a : Nat),(entsD c w k a).length = k
  | 0,_ => rfl
  | k + 1,a => by simp [entsD,entsD_len c w k]
theorem entsD_row {c : List Int} {w : Nat} : ∀ {k a : Nat} {x : Et},x ∈ entsD c w k a → x.row.length = w
  | 0,_,x,h => by cases h
  | k + 1,a,x,h => by
    rcases List.mem_cons.1 h with rfl | h
    · simp [entD]
    · exact entsD_row h
theorem l_entsD (c : List Int) (w : Nat) (hc : okS c) (hw5 : w < 1000) : ∀ x : Nat × Nat × (List Et),(x.1 < 1000 ∧ x.2.1 + x.1 * (6 * w + 2) < 800000000 ∧ x.2.2.length + x.1 < 1000) → ∀ s,normE 2 (some [0,1,5,6]) s = ⟨[(0,.ptr 0 0 []),(1,.int .i64 w),(5,.ref 2 0 x.2.2.length),(6,.int .i64 x.1)],[(0,⟨true,true,2,[srcV c x.2.1],0⟩),(2,⟨false,false,2,ets true x.2.2,0⟩)],3⟩ →
 oc.loop 226 3 s = some (.exit 0,⟨[(5,.ref 2 0 (x.2.2 ++ entsD c w x.1 x.2.1).length)],[(0,⟨true,true,2,[srcV c (x.2.1 + x.1 * (6 * w + 2))],0⟩),(2,⟨false,false,2,ets true (x.2.2 ++ entsD c w x.1 x.2.1),0⟩)],3⟩) := by
 refine loop_ind (σ:=Nat × Nat × (List Et)) (fun x => x.1) _ (fun x => ⟨[(0,.ptr 0 0 []),(1,.int .i64 w),(5,.ref 2 0 x.2.2.length),(6,.int .i64 x.1)],[(0,⟨true,true,2,[srcV c x.2.1],0⟩),(2,⟨false,false,2,ets true x.2.2,0⟩)],3⟩) _ ?_
 rintro ⟨k,a,l⟩ hi ih s hs
 simp only at hi
 refine loop_s cd226 rfl rfl hs ?_
 obtain ⟨hi1,hi2,hi3⟩ := hi
 refine wa_ (wa_ (wc_region (w_ (m_ (h:=w_ (b_ (h:=wo_nil (e_ (h:=aft_normal (?_))))))))))
 refine c_ (h1:=?_) (h2:=?_)
 rotate_right 1
 focus
  intro c1
  first
  | exact dn c1
  | (
   have d1 := c1;try simp at d1
   refine wc_exit (?_)
   )
 rotate_right 1
 focus
  intro c1
  first
  | exact dn c1
  | (
   have d1 := c1;try simp at d1
   have hj : 0 < k := (by simp at c1;omega);obtain ⟨m,rfl⟩ : ∃ m,k = m + 1 := ⟨k - 1,by omega⟩;rw [Nat.succ_mul m (6 * w + 2)] at hi2;have e9 : a + 6 * w + 2 + m * (6 * w + 2) = a + (m + 1) * (6 * w + 2) := (by rw [Nat.succ_mul m (6 * w + 2)];generalize m * (6 * w + 2) = Q;omega);obtain ⟨P,hP⟩ : ∃ P,m * (6 * w + 2) = P := ⟨_,rfl⟩;rw [hP] at hi2;have hT : (rowD c w a).take w = rowD c w a := List.take_of_length_le (by simp)
   refine wc_skip (?_)
   )
 all_goals first
 | refine aft_exit ?_
 | (
  refine aft_normal ?_
  refine wa_ (wc_block (wc_region (w_ (m_ (h:=w_ (m_ (h:=w_ (m_ (h:=w_ (cP (hc:=e_rowD c w a hc (by omega) (by omega)) (h:=w_ (m_ (h:=w_ (m_ (h:=w_ (cP (hc:=e_next c (a + 6 * w) 9 hc (by omega) (by omega)) (h:=w_ (b_ (h:=w_ (bs (h:=?_)))))))))))))))))))))
  refine w_ (cPT (hc:=e_pick c (a + 6 * w + 1) [1,1,2,-1,IntKind.i64.wrap (nxtV c (a + 6 * w) 9 - 4)] hc (by omega) (by simp) (by simp)) (h:=w_ (bd (h:=w_ (bs (h:=w_ (ap (h:=w_ (a_ (h:=wo_nil (e_ (h:=blk_normal (aft_normal (wc_region (w_ (m_ (h:=w_ (?_))))))))))))))))))
  refine b_ (hv:=iv_sub (c:=m) (by simp) (by omega)) (h:=?_)
  refine w_ (a_ (h:=wo_nil (e_ (h:=?_))))
  )
 all_goals first
 | (apply end_leaf (ex:=(Ext.exit 0)) 2 (some [5]);(focus (simp [normE];rfl));(focus (obtain rfl : k = 0 := (by simp at c1;omega);simp [entsD])))
 | (refine (ih ((m,a + 6 * w + 2,l ++ [entD c w a])) (⟨by simp only;omega,by simp only;rw [hP];omega,by simp;omega⟩) ?_ _ ?_).trans ?_;(focus (first | omega | (simp;done) | (simp;omega)));(focus (simp [normE,entD,entW,hT];done));(focus (simp [entsD,e9])))
theorem e_ents (c : List Int) (w a k : Nat) (hc : okS c) (hw5 : w < 1000) (ha : a < 700000000) (hk : (nxtV c a 7).toNat = k) : oc.call 226 [.iop (srcV c a),.int .i64 w] = some (.lst true 2 (ets true (entsD c w k (a + 1))),[srcV c (a + 1 + k * (6 * w + 2))]) := by
 refine fun_s rfl cd226 rfl rfl rfl (by simp;rfl) (by simp;rfl) ?_
 obtain ⟨h1,h2⟩ := nxtV_in (c:=c) (a:=a) (n:=7) (by omega)
 have hn5 : nxtV c a 7 = (k : Int) := by omega
 have hkl : k < 7 := by omega
 have hkm : k * (6 * w + 2) ≤ 7 * (6 * w + 2) := Nat.mul_le_mul_right _ (by omega)
 have hnx : oc.call 98 [.iop (srcV c a),.int .i64 7] = some (.int .i64 k,[srcV c (a + 1)]) := by rw [← hn5];exact e_next c a 7 hc (by omega) (by omega)
 have hT : (ets true (entsD c w k (a + 1))).take (entsD c w k (a + 1)).length = ets true (entsD c w k (a + 1)) := List.take_of_length_le (by simp)
 refine wa_ (wc_region (w_ (aN (h:=wo_nil (e_ (h:=aft_normal (wa_ (wc_region (w_ (bs (h:=w_ (a_ (h:=wo_nil (e_ (h:=aft_normal (wa_ (?_)))))))))))))))))
 refine wa_ (wc_region (w_ (m_ (h:=w_ (cP (hc:=hnx) (h:=w_ (a_ (h:=wo_nil (e_ (h:=aft_normal (wc_block (?_))))))))))))
 refine wc_loop (l_entsD c w hc hw5 (k,a + 1,[]) ⟨by simp only;omega,by simp only;omega,by simp;omega⟩ _ (by simp [normE])) ?_
 refine blk_exit (aft_normal (wa_ (wc_region (w_ (m_ (h:=w_ (a_ (h:=wo_nil (e_ (h:=aft_normal (wc_ret (?_))))))))))))
 all_goals (refine fin_ (hr:=(res_tmp rfl res_nil)) (h:=?_);(focus (simp [hT])))
def drawS (c : List Int) (w a : Nat) : List Et := (sumZ (entsD c w (nxtV c a 7).toNat (a + 1))).1
def drawA (c : List Int) (w a : Nat) : Nat := a + 1 + (nxtV c a 7).toNat * (6 * w + 2)
theorem drawS_in (c : List Int) (w a : Nat) : (drawS c w a).length ≤ 200 ∧ (∀ x ∈ drawS c w a,x.row.length ≤ w) ∧ drawA c w a ≤ a + 1 + 7 * (6 * w + 2) := by
  obtain ⟨h1,h2⟩ := nxtV_in (c:=c) (a:=a) (n:=7) (by omega)
  have h := sumZ_ok (z:=entsD c w (nxtV c a 7).toNat (a + 1)) (n:=w) (fun x hx => by rw [entsD_row hx];exact Nat.le_refl _)
  refine ⟨h.1,h.2,?_⟩
  have := Nat.mul_le_mul_right (6 * w + 2) (show (nxtV c a 7).toNat ≤ 7 by omega)
  unfold drawA;omega
theorem r_draw (c : List Int) (w a : Nat) (hc : okS c) (hw5 : w < 1000) (ha : a < 700000000) : runE oc cf 182 [.iop (srcV c a),.int .i64 w] = some (.lst true 2 (ets true (drawS c w a)),[srcV c (drawA c w a)]) := by
 refine run_s cd182 rfl rfl rfl (by first | (simp;rfl) | rfl) (by first | (simp;rfl) | rfl) ?_
 obtain ⟨h1,h2⟩ := nxtV_in (c:=c) (a:=a) (n:=7) (by omega)
 obtain ⟨k,hk⟩ : ∃ k,(nxtV c a 7).toNat = k := ⟨_,rfl⟩
 have hs := e_sumS (entsD c w k (a + 1)) (by rw [entsD_len];omega) (fun x hx => by rw [entsD_row hx];omega)
 have hT : (ets true (sumZ (entsD c w k (a + 1))).1).take (sumZ (entsD c w k (a + 1))).1.length = ets true (sumZ (entsD c w k (a + 1))).1 := List.take_of_length_le (by simp)
 refine wa_ (wc_region (w_ (aN (h:=wo_nil (e_ (h:=aft_normal (wa_ (wc_region (w_ (m_ (h:=w_ (m_ (h:=w_ (cP (hc:=e_ents c w a k hc hw5 ha hk) (h:=w_ (ca (hc:=hs) (h:=w_ (m_ (h:=?_)))))))))))))))))))
 refine w_ (ex (h:=w_ (ex (h:=w_ (a_ (h:=w_ (a_ (h:=wo_nil (e_ (h:=aft_normal (wa_ (wc_region (w_ (m_ (h:=w_ (a_ (h:=wo_nil (e_ (h:=aft_normal (?_))))))))))))))))))))
 refine wc_ret (?_)
 all_goals (refine fin_ (hr:=(res_tmp rfl res_nil)) (h:=?_);(focus (unfold drawS drawA;rw [hk];simp [hT])))
theorem e_draw (c : List Int) (w a : Nat) (hc : okS c) (hw5 : w < 1000) (ha : a < 700000000) : oc.call 182 [.iop (srcV c a),.int .i64 w] = some (.lst true 2 (ets false (drawS c w a)),[srcV c (drawA c w a)]) := by
  have := half_s rfl rfl (r_draw c w a hc hw5 ha)
  simpa [V.half] using this
section
variable {call : Call} {id base : Nat} {e : List (Nat × V)} {o : List (Nat × Ob)} {n : Nat} {t : TypeId} {K : V → List (Nat × Ob) → Prop}
theorem sR {x y : Operand} {z e0 e1 old : V} {t' : TypeId} {q j o2 m : Nat} {fs : List Nat} {ob ob2 : Ob} {o1 : List (Nat × Ob)} {ws : List V} (hz : cf.zero t' = some z := by exact tys_ok.zero _ _ rfl) (hx : opV e x = some (.ptr q j fs) := by exact rfl) (hy : opV e y = some (.ref o2 0 m) := by exact rfl) (ho : geta o q = some ob := by exact rfl) (hb : ob.bx = false := by rfl) (hg : ob.xs[j]? = some e0 := by first | assumption | exact set_at (by assumption)) (hgf : getF e0 fs = some old := by exact rfl) (hal : old.alike (.ref o2 0 m) = true := by rfl) (hzal : z.alike (.ref o2 0 m) = true := by rfl)
    (h2 : geta o o2 = some ob2 := by exact rfl) (hb2 : ob2.bx = false := by rfl) (hf2 : ob2.fx = false := by rfl) (hm : m = ob2.xs.length := by first | rfl | simp) (hd : dela o o2 = o1 := by (simp;rfl)) (hq1 : geta o1 q = some ob := by exact rfl) (hs : setF e0 fs (.lst true ob2.sz ob2.xs) = some e1 := by exact rfl) (hal2 : old.alike (.lst true ob2.sz ob2.xs) = true := by rfl) (hw : ob.xs.set j e1 = ws := by (try simp only [List.set_set]);rfl)
    (h : K .und ((q,⟨ob.bx,ob.fx,ob.sz,ws,ob.ver + 1⟩) :: o1)) : opK call cf id base e o n t (.store t' x y) K := by
  subst hd hm hw
  refine ⟨_,_,?_,h⟩
  have hgive : St.give ⟨e,o,n⟩ o2 0 ob2.xs.length = some (ob2.sz,ob2.xs,⟨e,dela o o2,n⟩) := by
    simp only [St.give,h2,hb2,hf2,Nat.zero_add,Nat.le_refl,and_self,if_true,List.drop_zero,List.take_length]
  have hfz : V.fz (.ref o2 0 ob2.xs.length) ⟨e,o,n⟩ = some (.lst true ob2.sz ob2.xs,⟨e,dela o o2,n⟩) := by
    simp only [V.fz,hgive,mp_some]
  have hget : ob.get j fs = some old := by simp only [Ob.get,hg,hgf]
  have hset : ob.set j fs (.lst true ob2.sz ob2.xs) = some { ob with xs := ob.xs.set j e1 } := by simp only [Ob.set,hg,hs,mp_some]
  have hsc : V.scal (.ref o2 0 ob2.xs.length) = false := rfl
  simp only [opE,hz,hx,hy,storeV,ho,hget,hal,hzal,and_self,if_true,hb,Bool.false_eq_true,if_false,hfz,hq1,hal2,hset,mp_some,hsc,Bool.and_false,puta]
end
end Go.Proofs.Ytgkbmiaimjpbfaa.Ev
namespace Go.Proofs.Ytgkbmiaimjpbfaa.Ev
open Go
set_option maxRecDepth 100000
set_option linter.unusedSimpArgs false
set_option linter.unusedVariables false
set_option maxHeartbeats 2000000
def sixW : List Int := [0,1000000000000,1000000000001,-1000000000000,-1000000000001,-9223372036854775808]
theorem ets_ix {z : List Et} {i : Nat} (h : i < z.length) : ∃ x,z[i]? = some x ∧ (ets false z)[i]? = some (V.agg [.lst false 0 (ints x.row),.int .i64 x.w]) := ⟨z[i],by simp [h],by simp [ets,h,Et.v,lz]⟩
theorem r_bE (c : List Int) (w a : Nat) (hc : okS c) (hw5 : w < 1000) (ha : a < 600000000) (hz : drawS c w a = []) : runE oc cf 97 [.iop (srcV c a),.int .i64 w] = some (.lst true 2 [],[srcV c (drawA c w a)]) := by
 refine run_s cd97 rfl rfl rfl (by first | (simp;rfl) | rfl) (by first | (simp;rfl) | rfl) ?_
 have hdr := e_draw c w a hc hw5 (by omega)
 rw [hz] at hdr
 refine wa_ (wc_region (w_ (aN (h:=wo_nil (e_ (h:=aft_normal (wa_ (wc_region (w_ (m_ (h:=w_ (m_ (h:=w_ (cP (hc:=hdr) (h:=w_ (a_ (h:=wo_nil (e_ (h:=?_)))))))))))))))))))
 refine aft_normal (wa_ (wa_ (wc_region (w_ (m_ (h:=w_ (le (h:=w_ (bE (h:=wo_nil (e_ (h:=aft_normal (?_)))))))))))))
 refine c_ (h1:=?_) (h2:=?_)
 rotate_right 1
 focus
  intro c1
  first
  | exact dn c1
  | (
   have d1 := c1;try simp at d1
   exfalso;simp at c1
   )
 rotate_right 1
 focus
  intro c1
  first
  | exact dn c1
  | (
   have d1 := c1;try simp at d1
   refine wa_ (wc_region (w_ (m_ (h:=w_ (a_ (h:=wo_nil (e_ (h:=aft_normal (wc_ret (?_))))))))))
   )
 all_goals first
 | refine aft_ret ?_
 | (
  refine aft_normal ?_
  refine wa_ (wc_region (w_ (m_ (h:=w_ (m_ (h:=w_ (le (h:=w_ (MISSING_CALL_spec.l1Next (h:=w_ (a_ (h:=wo_nil (e_ (h:=aft_normal (wa_ (wa_ (wc_region (?_))))))))))))))))))
  refine w_ (m_ (h:=w_ (MISSING_CALL_spec.l1Next (h:=wo_nil (e_ (h:=aft_normal (wc_block (wa_ (wc_region (w_ (bE (h:=w_ (a_ (h:=wo_nil (e_ (h:=aft_normal (?_)))))))))))))))))
  refine c_ (h1:=?_) (h2:=?_)
  rotate_right 1
  focus
   intro c2
   first
   | exact dn c2
   | (
    have d2 := c2;try simp at d2
    refine wa_ (wc_region (w_ (bE (h:=w_ (a_ (h:=wo_nil (e_ (h:=aft_normal (?_)))))))))
    refine c_ (h1:=?_) (h2:=?_)
    rotate_right 1
    focus
     intro c3
     first
     | exact dn c3
     | (
      have d3 := c3;try simp at d3
      refine wa_ (wc_region (w_ (bE (h:=w_ (a_ (h:=wo_nil (e_ (h:=aft_normal (?_)))))))))
      refine c_ (h1:=?_) (h2:=?_)
      rotate_right 1
      focus
       intro c4
       first
       | exact dn c4
       | (
        have d4 := c4;try simp at d4
        refine wa_ (wc_region (w_ (bE (h:=w_ (a_ (h:=wo_nil (e_ (h:=aft_normal (?_)))))))))
        refine c_ (h1:=?_) (h2:=?_)
        rotate_right 1
        focus
         intro c5
         first
         | exact dn c5
         | (
          have d5 := c5;try simp at d5
          refine wc_skip (?_)
          )
        rotate_right 1
        focus
         intro c5
         first
         | exact dn c5
         | (
          have d5 := c5;try simp at d5
          refine wc_region (w_ (mk (h:=w_ (a_ (h:=wo_nil (e_ (h:=?_)))))))
          )
        )
      rotate_right 1
      focus
       intro c4
       first
       | exact dn c4
       | (
        have d4 := c4;try simp at d4
        refine wc_region (w_ (m_ (h:=w_ (m_ (h:=w_ (m_ (h:=w_ (x_ (h:=w_ (l_ (h:=w_ (bs (h:=w_ (ap (h:=w_ (a_ (h:=wo_nil (e_ (h:=?_)))))))))))))))))))
        )
      )
    rotate_right 1
    focus
     intro c3
     first
     | exact dn c3
     | (
      have d3 := c3;try simp at d3
      refine wc_region (w_ (m_ (h:=w_ (m_ (h:=w_ (m_ (h:=w_ (bs (h:=w_ (MISSING_CALL_spec.l1Pick (h:=w_ (x_ (h:=w_ (f_ (h:=w0 (s_ (h:=wo_nil (e_ (h:=?_)))))))))))))))))))
      )
    )
  rotate_right 1
  focus
   intro c2
   first
   | exact dn c2
   | (
    have d2 := c2;try simp at d2
    refine wc_region (w_ (m_ (h:=w_ (m_ (h:=w_ (m_ (h:=w_ (MISSING_CALL_spec.l1Bent (h:=w_ (x_ (h:=w_ (f_ (h:=w0 (s_ (h:=wo_nil (e_ (h:=?_)))))))))))))))))
    )
  all_goals refine blk_normal ?_
  all_goals first
  | (
   refine aft_normal ?_
   refine wa_ (wc_region (w_ (m_ (h:=w_ (a_ (h:=wo_nil (e_ (h:=aft_normal (wc_ret (?_))))))))))
   )
  )
 all_goals (refine fin_ (hr:=(res_tmp rfl res_nil)) (h:=?_);(focus (simp)))
theorem r_b0 (c : List Int) (w a A I : Nat) (z : List Et) (hc : okS c) (hw5 : w < 1000) (ha : a < 600000000) (hz : drawS c w a = z) (hA : drawA c w a = A) (h0 : 0 < z.length) (hI : nxtV c A z.length = (I : Int)) (hk : nxtV c (A + 1) 20 = 0) (x : Et) (hx : z[I]? = some x) : runE oc cf 97 [.iop (srcV c a),.int .i64 w] = some (.lst true 2 ((ets false z).set I (V.agg [.lst true 1 (ints (bentR c (A + 2)).1),.int .i64 x.w])),[srcV c (bentR c (A + 2)).2]) := by
 refine run_s cd97 rfl rfl rfl (by first | (simp;rfl) | rfl) (by first | (simp;rfl) | rfl) ?_
 have hd := drawS_in c w a
 rw [hz,hA] at hd
 obtain ⟨d1',d2',d3'⟩ := hd
 have hdr := e_draw c w a hc hw5 (by omega)
 rw [hz,hA] at hdr
 have hIl : I < z.length := by have := (nxtV_in (c:=c) (a:=A) (n:=z.length) (by omega)).2;omega
 have g1 : (ets false z)[I]? = some (V.agg [.lst false 0 (ints x.row),.int .i64 x.w]) := by obtain ⟨y,hy,g⟩ := ets_ix hIl;rw [hx] at hy;cases hy;exact g
 have hnx : oc.call 98 [.iop (srcV c A),.int .i64 z.length] = some (.int .i64 I,[srcV c (A + 1)]) := by rw [← hI];exact e_next c A z.length hc (by omega) (by omega)
 have hnk : oc.call 98 [.iop (srcV c (A + 1)),.int .i64 20] = some (.int .i64 (nxtV c (A + 1) 20),[srcV c (A + 1 + 1)]) := e_next c (A + 1) 20 hc (by omega) (by omega)
 have hTz : ∀ y,((ets false z).set I y).take z.length = (ets false z).set I y := fun y => List.take_of_length_le (by simp)
 refine wa_ (wc_region (w_ (aN (h:=wo_nil (e_ (h:=aft_normal (wa_ (wc_region (w_ (m_ (h:=w_ (m_ (h:=w_ (cP (hc:=hdr) (h:=w_ (a_ (h:=wo_nil (e_ (h:=?_)))))))))))))))))))
 refine aft_normal (wa_ (wa_ (wc_region (w_ (m_ (h:=w_ (le (h:=w_ (bE (h:=wo_nil (e_ (h:=aft_normal (?_)))))))))))))
 refine c_ (h1:=?_) (h2:=?_)
 rotate_right 1
 focus
  intro c1
  first
  | exact dn c1
  | (
   have d1 := c1;try simp at d1
   refine wc_skip (?_)
   )
 rotate_right 1
 focus
  intro c1
  first
  | exact dn c1
  | (
   have d1 := c1;try simp at d1
   exfalso;simp at c1;simp [c1] at h0
   )
 all_goals first
 | refine aft_ret ?_
 | (
  refine aft_normal ?_
  refine wa_ (wc_region (w_ (m_ (h:=w_ (m_ (h:=w_ (le (h:=w_ (cP (hc:=hnx) (h:=w_ (a_ (h:=wo_nil (e_ (h:=aft_normal (wa_ (wa_ (wc_region (?_))))))))))))))))))
  refine w_ (m_ (h:=w_ (cP (hc:=hnk) (h:=wo_nil (e_ (h:=aft_normal (wc_block (wa_ (wc_region (w_ (bE (h:=w_ (a_ (h:=wo_nil (e_ (h:=aft_normal (?_)))))))))))))))))
  refine c_ (h1:=?_) (h2:=?_)
  rotate_right 1
  focus
   intro c2
   first
   | exact dn c2
   | (
    have d2 := c2;try simp at d2
    exfalso;simp [hk] at c2
    )
  rotate_right 1
  focus
   intro c2
   first
   | exact dn c2
   | (
    have d2 := c2;try simp at d2
    refine wc_region (w_ (m_ (h:=w_ (m_ (h:=w_ (m_ (h:=w_ (cP (hc:=e_bentR c (A + 2) hc (by omega)) (h:=w_ (x_ (h:=w_ (f_ (h:=w0 (?_))))))))))))))
    refine sR (h:=?_)
    refine wo_nil (e_ (h:=?_))
    )
  all_goals refine blk_normal ?_
  all_goals first
  | (
   refine aft_normal ?_
   refine wa_ (wc_region (w_ (m_ (h:=w_ (a_ (h:=wo_nil (e_ (h:=aft_normal (wc_ret (?_))))))))))
   )
  )
 all_goals (refine fin_ (hr:=(res_tmp rfl res_nil)) (h:=?_);(focus (simp [hTz])))
theorem r_b1 (c : List Int) (w a A I : Nat) (z : List Et) (hc : okS c) (hw5 : w < 1000) (ha : a < 600000000) (hz : drawS c w a = z) (hA : drawA c w a = A) (h0 : 0 < z.length) (hI : nxtV c A z.length = (I : Int)) (hk : nxtV c (A + 1) 20 = 1) (x : Et) (hx : z[I]? = some x) : runE oc cf 97 [.iop (srcV c a),.int .i64 w] = some (.lst true 2 (ets false (z.set I ⟨x.row,at0 sixW (nxtV c (A + 2) 6)⟩)),[srcV c (A + 3)]) := by
 refine run_s cd97 rfl rfl rfl (by first | (simp;rfl) | rfl) (by first | (simp;rfl) | rfl) ?_
 have hd := drawS_in c w a
 rw [hz,hA] at hd
 obtain ⟨d1',d2',d3'⟩ := hd
 have hdr := e_draw c w a hc hw5 (by omega)
 rw [hz,hA] at hdr
 have hIl : I < z.length := by have := (nxtV_in (c:=c) (a:=A) (n:=z.length) (by omega)).2;omega
 have g1 : (ets false z)[I]? = some (V.agg [.lst false 0 (ints x.row),.int .i64 x.w]) := by obtain ⟨y,hy,g⟩ := ets_ix hIl;rw [hx] at hy;cases hy;exact g
 have hnx : oc.call 98 [.iop (srcV c A),.int .i64 z.length] = some (.int .i64 I,[srcV c (A + 1)]) := by rw [← hI];exact e_next c A z.length hc (by omega) (by omega)
 have hnk : oc.call 98 [.iop (srcV c (A + 1)),.int .i64 20] = some (.int .i64 (nxtV c (A + 1) 20),[srcV c (A + 1 + 1)]) := e_next c (A + 1) 20 hc (by omega) (by omega)
 have hTz : ∀ y,((ets false z).set I y).take z.length = (ets false z).set I y := fun y => List.take_of_length_le (by simp)
 have h6 : sixW.length = 6 := rfl
 have hT1 : ∀ y,(z.set I y).take z.length = z.set I y := fun y => List.take_of_length_le (by simp)
 refine wa_ (wc_region (w_ (aN (h:=wo_nil (e_ (h:=aft_normal (wa_ (wc_region (w_ (m_ (h:=w_ (m_ (h:=w_ (cP (hc:=hdr) (h:=w_ (a_ (h:=wo_nil (e_ (h:=?_)))))))))))))))))))
 refine aft_normal (wa_ (wa_ (wc_region (w_ (m_ (h:=w_ (le (h:=w_ (bE (h:=wo_nil (e_ (h:=aft_normal (?_)))))))))))))
 refine c_ (h1:=?_) (h2:=?_)
 rotate_right 1
 focus
  intro c1
  first
  | exact dn c1
  | (
   have d1 := c1;try simp at d1
   refine wc_skip (?_)
   )
 rotate_right 1
 focus
  intro c1
  first
  | exact dn c1
  | (
   have d1 := c1;try simp at d1
   exfalso;simp at c1;simp [c1] at h0
   )
 all_goals first
 | refine aft_ret ?_
 | (
  refine aft_normal ?_
  refine wa_ (wc_region (w_ (m_ (h:=w_ (m_ (h:=w_ (le (h:=w_ (cP (hc:=hnx) (h:=w_ (a_ (h:=wo_nil (e_ (h:=aft_normal (wa_ (wa_ (wc_region (?_))))))))))))))))))
  refine w_ (m_ (h:=w_ (cP (hc:=hnk) (h:=wo_nil (e_ (h:=aft_normal (wc_block (wa_ (wc_region (w_ (bE (h:=w_ (a_ (h:=wo_nil (e_ (h:=aft_normal (?_)))))))))))))))))
  refine c_ (h1:=?_) (h2:=?_)
  rotate_right 1
  focus
   intro c2
   first
   | exact dn c2
   | (
    have d2 := c2;try simp at d2
    refine wa_ (wc_region (w_ (bE (h:=w_ (a_ (h:=wo_nil (e_ (h:=aft_normal (?_)))))))))
    refine c_ (h1:=?_) (h2:=?_)
    rotate_right 1
    focus
     intro c3
     first
     | exact dn c3
     | (
      have d3 := c3;try simp at d3
      exfalso;simp [hk] at c3
      )
    rotate_right 1
    focus
     intro c3
     first
     | exact dn c3
     | (
      have d3 := c3;try simp at d3
      refine wc_region (w_ (m_ (h:=w_ (m_ (h:=w_ (m_ (h:=w_ (bs (h:=w_ (cPT (hc:=e_pick c (A + 2) sixW hc (by omega) (by simp [sixW]) (by simp [sixW])) (h:=w_ (x_ (h:=w_ (f_ (h:=w0 (s_ (h:=wo_nil (e_ (h:=?_)))))))))))))))))))
      )
    )
  rotate_right 1
  focus
   intro c2
   first
   | exact dn c2
   | (
    have d2 := c2;try simp at d2
    exfalso;simp [hk] at c2
    )
  all_goals refine blk_normal ?_
  all_goals first
  | (
   refine aft_normal ?_
   refine wa_ (wc_region (w_ (m_ (h:=w_ (a_ (h:=wo_nil (e_ (h:=aft_normal (wc_ret (?_))))))))))
   )
  )
 all_goals (refine fin_ (hr:=(res_tmp rfl res_nil)) (h:=?_);(focus (simp [hT1,h6])))
theorem r_b2 (c : List Int) (w a A I : Nat) (z : List Et) (hc : okS c) (hw5 : w < 1000) (ha : a < 600000000) (hz : drawS c w a = z) (hA : drawA c w a = A) (h0 : 0 < z.length) (hI : nxtV c A z.length = (I : Int)) (hk : nxtV c (A + 1) 20 = 2) (x : Et) (hx : z[I]? = some x) : runE oc cf 97 [.iop (srcV c a),.int .i64 w] = some (.lst true 2 (ets false (z ++ [x])),[srcV c (A + 2)]) := by
 refine run_s cd97 rfl rfl rfl (by first | (simp;rfl) | rfl) (by first | (simp;rfl) | rfl) ?_
 have hd := drawS_in c w a
 rw [hz,hA] at hd
 obtain ⟨d1',d2',d3'⟩ := hd
 have hdr := e_draw c w a hc hw5 (by omega)
 rw [hz,hA] at hdr
 have hIl : I < z.length := by have := (nxtV_in (c:=c) (a:=A) (n:=z.length) (by omega)).2;omega
 have g1 : (ets false z)[I]? = some (V.agg [.lst false 0 (ints x.row),.int .i64 x.w]) := by obtain ⟨y,hy,g⟩ := ets_ix hIl;rw [hx] at hy;cases hy;exact g
 have hnx : oc.call 98 [.iop (srcV c A),.int .i64 z.length] = some (.int .i64 I,[srcV c (A + 1)]) := by rw [← hI];exact e_next c A z.length hc (by omega) (by omega)
 have hnk : oc.call 98 [.iop (srcV c (A + 1)),.int .i64 20] = some (.int .i64 (nxtV c (A + 1) 20),[srcV c (A + 1 + 1)]) := e_next c (A + 1) 20 hc (by omega) (by omega)
 have hTz : ∀ y,((ets false z).set I y).take z.length = (ets false z).set I y := fun y => List.take_of_length_le (by simp)
 have hT1 : (z ++ [x]).take (z.length + 1) = z ++ [x] := List.take_of_length_le (by simp)
 refine wa_ (wc_region (w_ (aN (h:=wo_nil (e_ (h:=aft_normal (wa_ (wc_region (w_ (m_ (h:=w_ (m_ (h:=w_ (cP (hc:=hdr) (h:=w_ (a_ (h:=wo_nil (e_ (h:=?_)))))))))))))))))))
 refine aft_normal (wa_ (wa_ (wc_region (w_ (m_ (h:=w_ (le (h:=w_ (bE (h:=wo_nil (e_ (h:=aft_normal (?_)))))))))))))
 refine c_ (h1:=?_) (h2:=?_)
 rotate_right 1
 focus
  intro c1
  first
  | exact dn c1
  | (
   have d1 := c1;try simp at d1
   refine wc_skip (?_)
   )
 rotate_right 1
 focus
  intro c1
  first
  | exact dn c1
  | (
   have d1 := c1;try simp at d1
   exfalso;simp at c1;simp [c1] at h0
   )
 all_goals first
 | refine aft_ret ?_
 | (
  refine aft_normal ?_
  refine wa_ (wc_region (w_ (m_ (h:=w_ (m_ (h:=w_ (le (h:=w_ (cP (hc:=hnx) (h:=w_ (a_ (h:=wo_nil (e_ (h:=aft_normal (wa_ (wa_ (wc_region (?_))))))))))))))))))
  refine w_ (m_ (h:=w_ (cP (hc:=hnk) (h:=wo_nil (e_ (h:=aft_normal (wc_block (wa_ (wc_region (w_ (bE (h:=w_ (a_ (h:=wo_nil (e_ (h:=aft_normal (?_)))))))))))))))))
  refine c_ (h1:=?_) (h2:=?_)
  rotate_right 1
  focus
   intro c2
   first
   | exact dn c2
   | (
    have d2 := c2;try simp at d2
    refine wa_ (wc_region (w_ (bE (h:=w_ (a_ (h:=wo_nil (e_ (h:=aft_normal (?_)))))))))
    refine c_ (h1:=?_) (h2:=?_)
    rotate_right 1
    focus
     intro c3
     first
     | exact dn c3
     | (
      have d3 := c3;try simp at d3
      refine wa_ (wc_region (w_ (bE (h:=w_ (a_ (h:=wo_nil (e_ (h:=aft_normal (?_)))))))))
      refine c_ (h1:=?_) (h2:=?_)
      rotate_right 1
      focus
       intro c4
       first
       | exact dn c4
       | (
        have d4 := c4;try simp at d4
        exfalso;simp [hk] at c4
        )
      rotate_right 1
      focus
       intro c4
       first
       | exact dn c4
       | (
        have d4 := c4;try simp at d4
        refine wc_region (w_ (m_ (h:=w_ (m_ (h:=w_ (m_ (h:=w_ (x_ (h:=w_ (l_ (h:=w_ (bs (h:=w_ (ap (h:=w_ (a_ (h:=wo_nil (e_ (h:=?_)))))))))))))))))))
        )
      )
    rotate_right 1
    focus
     intro c3
     first
     | exact dn c3
     | (
      have d3 := c3;try simp at d3
      exfalso;simp [hk] at c3
      )
    )
  rotate_right 1
  focus
   intro c2
   first
   | exact dn c2
   | (
    have d2 := c2;try simp at d2
    exfalso;simp [hk] at c2
    )
  all_goals refine blk_normal ?_
  all_goals first
  | (
   refine aft_normal ?_
   refine wa_ (wc_region (w_ (m_ (h:=w_ (a_ (h:=wo_nil (e_ (h:=aft_normal (wc_ret (?_))))))))))
   )
  )
 all_goals (refine fin_ (hr:=(res_tmp rfl res_nil)) (h:=?_);(focus (simp [hT1])))
theorem r_b3 (c : List Int) (w a A I : Nat) (z : List Et) (hc : okS c) (hw5 : w < 1000) (ha : a < 600000000) (hz : drawS c w a = z) (hA : drawA c w a = A) (h0 : 0 < z.length) (hI : nxtV c A z.length = (I : Int)) (hk : nxtV c (A + 1) 20 = 3) (x : Et) (hx : z[I]? = some x) : runE oc cf 97 [.iop (srcV c a),.int .i64 w] = some (.lst true 2 (ets true (List.replicate 201 ⟨[],0⟩)),[srcV c (A + 2)]) := by
 refine run_s cd97 rfl rfl rfl (by first | (simp;rfl) | rfl) (by first | (simp;rfl) | rfl) ?_
 have hd := drawS_in c w a
 rw [hz,hA] at hd
 obtain ⟨d1',d2',d3'⟩ := hd
 have hdr := e_draw c w a hc hw5 (by omega)
 rw [hz,hA] at hdr
 have hIl : I < z.length := by have := (nxtV_in (c:=c) (a:=A) (n:=z.length) (by omega)).2;omega
 have g1 : (ets false z)[I]? = some (V.agg [.lst false 0 (ints x.row),.int .i64 x.w]) := by obtain ⟨y,hy,g⟩ := ets_ix hIl;rw [hx] at hy;cases hy;exact g
 have hnx : oc.call 98 [.iop (srcV c A),.int .i64 z.length] = some (.int .i64 I,[srcV c (A + 1)]) := by rw [← hI];exact e_next c A z.length hc (by omega) (by omega)
 have hnk : oc.call 98 [.iop (srcV c (A + 1)),.int .i64 20] = some (.int .i64 (nxtV c (A + 1) 20),[srcV c (A + 1 + 1)]) := e_next c (A + 1) 20 hc (by omega) (by omega)
 have hTz : ∀ y,((ets false z).set I y).take z.length = (ets false z).set I y := fun y => List.take_of_length_le (by simp)
 refine wa_ (wc_region (w_ (aN (h:=wo_nil (e_ (h:=aft_normal (wa_ (wc_region (w_ (m_ (h:=w_ (m_ (h:=w_ (cP (hc:=hdr) (h:=w_ (a_ (h:=wo_nil (e_ (h:=?_)))))))))))))))))))
 refine aft_normal (wa_ (wa_ (wc_region (w_ (m_ (h:=w_ (le (h:=w_ (bE (h:=wo_nil (e_ (h:=aft_normal (?_)))))))))))))
 refine c_ (h1:=?_) (h2:=?_)
 rotate_right 1
 focus
  intro c1
  first
  | exact dn c1
  | (
   have d1 := c1;try simp at d1
   refine wc_skip (?_)
   )
 rotate_right 1
 focus
  intro c1
  first
  | exact dn c1
  | (
   have d1 := c1;try simp at d1
   exfalso;simp at c1;simp [c1] at h0
   )
 all_goals first
 | refine aft_ret ?_
 | (
  refine aft_normal ?_
  refine wa_ (wc_region (w_ (m_ (h:=w_ (m_ (h:=w_ (le (h:=w_ (cP (hc:=hnx) (h:=w_ (a_ (h:=wo_nil (e_ (h:=aft_normal (wa_ (wa_ (wc_region (?_))))))))))))))))))
  refine w_ (m_ (h:=w_ (cP (hc:=hnk) (h:=wo_nil (e_ (h:=aft_normal (wc_block (wa_ (wc_region (w_ (bE (h:=w_ (a_ (h:=wo_nil (e_ (h:=aft_normal (?_)))))))))))))))))
  refine c_ (h1:=?_) (h2:=?_)
  rotate_right 1
  focus
   intro c2
   first
   | exact dn c2
   | (
    have d2 := c2;try simp at d2
    refine wa_ (wc_region (w_ (bE (h:=w_ (a_ (h:=wo_nil (e_ (h:=aft_normal (?_)))))))))
    refine c_ (h1:=?_) (h2:=?_)
    rotate_right 1
    focus
     intro c3
     first
     | exact dn c3
     | (
      have d3 := c3;try simp at d3
      refine wa_ (wc_region (w_ (bE (h:=w_ (a_ (h:=wo_nil (e_ (h:=aft_normal (?_)))))))))
      refine c_ (h1:=?_) (h2:=?_)
      rotate_right 1
      focus
       intro c4
       first
       | exact dn c4
       | (
        have d4 := c4;try simp at d4
        refine wa_ (wc_region (w_ (bE (h:=w_ (a_ (h:=wo_nil (e_ (h:=aft_normal (?_)))))))))
        refine c_ (h1:=?_) (h2:=?_)
        rotate_right 1
        focus
         intro c5
         first
         | exact dn c5
         | (
          have d5 := c5;try simp at d5
          exfalso;simp [hk] at c5
          )
        rotate_right 1
        focus
         intro c5
         first
         | exact dn c5
         | (
          have d5 := c5;try simp at d5
          refine wc_region (w_ (mk (h:=w_ (a_ (h:=wo_nil (e_ (h:=?_)))))))
          )
        )
      rotate_right 1
      focus
       intro c4
       first
       | exact dn c4
       | (
        have d4 := c4;try simp at d4
        exfalso;simp [hk] at c4
        )
      )
    rotate_right 1
    focus
     intro c3
     first
     | exact dn c3
     | (
      have d3 := c3;try simp at d3
      exfalso;simp [hk] at c3
      )
    )
  rotate_right 1
  focus
   intro c2
   first
   | exact dn c2
   | (
    have d2 := c2;try simp at d2
    exfalso;simp [hk] at c2
    )
  all_goals refine blk_normal ?_
  all_goals first
  | (
   refine aft_normal ?_
   refine wa_ (wc_region (w_ (m_ (h:=w_ (a_ (h:=wo_nil (e_ (h:=aft_normal (wc_ret (?_))))))))))
   )
  )
 all_goals (refine fin_ (hr:=(res_tmp rfl res_nil)) (h:=?_);(focus (first | (simp [ets_zero];done) | (simp [ets_zero];rfl) | (simp;rfl))))
theorem r_b4 (c : List Int) (w a A I : Nat) (z : List Et) (hc : okS c) (hw5 : w < 1000) (ha : a < 600000000) (hz : drawS c w a = z) (hA : drawA c w a = A) (h0 : 0 < z.length) (hI : nxtV c A z.length = (I : Int)) (hk : 3 < nxtV c (A + 1) 20) (x : Et) (hx : z[I]? = some x) : runE oc cf 97 [.iop (srcV c a),.int .i64 w] = some (.lst true 2 (ets false z),[srcV c (A + 2)]) := by
 refine run_s cd97 rfl rfl rfl (by first | (simp;rfl) | rfl) (by first | (simp;rfl) | rfl) ?_
 have hd := drawS_in c w a
 rw [hz,hA] at hd
 obtain ⟨d1',d2',d3'⟩ := hd
 have hdr := e_draw c w a hc hw5 (by omega)
 rw [hz,hA] at hdr
 have hIl : I < z.length := by have := (nxtV_in (c:=c) (a:=A) (n:=z.length) (by omega)).2;omega
 have g1 : (ets false z)[I]? = some (V.agg [.lst false 0 (ints x.row),.int .i64 x.w]) := by obtain ⟨y,hy,g⟩ := ets_ix hIl;rw [hx] at hy;cases hy;exact g
 have hnx : oc.call 98 [.iop (srcV c A),.int .i64 z.length] = some (.int .i64 I,[srcV c (A + 1)]) := by rw [← hI];exact e_next c A z.length hc (by omega) (by omega)
 have hnk : oc.call 98 [.iop (srcV c (A + 1)),.int .i64 20] = some (.int .i64 (nxtV c (A + 1) 20),[srcV c (A + 1 + 1)]) := e_next c (A + 1) 20 hc (by omega) (by omega)
 have hTz : ∀ y,((ets false z).set I y).take z.length = (ets false z).set I y := fun y => List.take_of_length_le (by simp)
 have hT1 : (ets false z).take z.length = ets false z := List.take_of_length_le (by simp)
 refine wa_ (wc_region (w_ (aN (h:=wo_nil (e_ (h:=aft_normal (wa_ (wc_region (w_ (m_ (h:=w_ (m_ (h:=w_ (cP (hc:=hdr) (h:=w_ (a_ (h:=wo_nil (e_ (h:=?_)))))))))))))))))))
 refine aft_normal (wa_ (wa_ (wc_region (w_ (m_ (h:=w_ (le (h:=w_ (bE (h:=wo_nil (e_ (h:=aft_normal (?_)))))))))))))
 refine c_ (h1:=?_) (h2:=?_)
 rotate_right 1
 focus
  intro c1
  first
  | exact dn c1
  | (
   have d1 := c1;try simp at d1
   refine wc_skip (?_)
   )
 rotate_right 1
 focus
  intro c1
  first
  | exact dn c1
  | (
   have d1 := c1;try simp at d1
   exfalso;simp at c1;simp [c1] at h0
   )
 all_goals first
 | refine aft_ret ?_
 | (
  refine aft_normal ?_
  refine wa_ (wc_region (w_ (m_ (h:=w_ (m_ (h:=w_ (le (h:=w_ (cP (hc:=hnx) (h:=w_ (a_ (h:=wo_nil (e_ (h:=aft_normal (wa_ (wa_ (wc_region (?_))))))))))))))))))
  refine w_ (m_ (h:=w_ (cP (hc:=hnk) (h:=wo_nil (e_ (h:=aft_normal (wc_block (wa_ (wc_region (w_ (bE (h:=w_ (a_ (h:=wo_nil (e_ (h:=aft_normal (?_)))))))))))))))))
  refine c_ (h1:=?_) (h2:=?_)
  rotate_right 1
  focus
   intro c2
   first
   | exact dn c2
   | (
    have d2 := c2;try simp at d2
    refine wa_ (wc_region (w_ (bE (h:=w_ (a_ (h:=wo_nil (e_ (h:=aft_normal (?_)))))))))
    refine c_ (h1:=?_) (h2:=?_)
    rotate_right 1
    focus
     intro c3
     first
     | exact dn c3
     | (
      have d3 := c3;try simp at d3
      refine wa_ (wc_region (w_ (bE (h:=w_ (a_ (h:=wo_nil (e_ (h:=aft_normal (?_)))))))))
      refine c_ (h1:=?_) (h2:=?_)
      rotate_right 1
      focus
       intro c4
       first
       | exact dn c4
       | (
        have d4 := c4;try simp at d4
        refine wa_ (wc_region (w_ (bE (h:=w_ (a_ (h:=wo_nil (e_ (h:=aft_normal (?_)))))))))
        refine c_ (h1:=?_) (h2:=?_)
        rotate_right 1
        focus
         intro c5
         first
         | exact dn c5
         | (
          have d5 := c5;try simp at d5
          refine wc_skip (?_)
          )
        rotate_right 1
        focus
         intro c5
         first
         | exact dn c5
         | (
          have d5 := c5;try simp at d5
          exfalso;simp at c5;omega
          )
        )
      rotate_right 1
      focus
       intro c4
       first
       | exact dn c4
       | (
        have d4 := c4;try simp at d4
        exfalso;simp at c4;omega
        )
      )
    rotate_right 1
    focus
     intro c3
     first
     | exact dn c3
     | (
      have d3 := c3;try simp at d3
      exfalso;simp at c3;omega
      )
    )
  rotate_right 1
  focus
   intro c2
   first
   | exact dn c2
   | (
    have d2 := c2;try simp at d2
    exfalso;simp at c2;omega
    )
  all_goals refine blk_normal ?_
  all_goals first
  | (
   refine aft_normal ?_
   refine wa_ (wc_region (w_ (m_ (h:=w_ (a_ (h:=wo_nil (e_ (h:=aft_normal (wc_ret (?_))))))))))
   )
  )
 all_goals (refine fin_ (hr:=(res_tmp rfl res_nil)) (h:=?_);(focus (simp [hT1])))
theorem e_bent (c : List Int) (w a : Nat) (hc : okS c) (hw5 : w < 1000) (ha : a < 600000000) : ∃ z a',z.length ≤ 201 ∧ (∀ x ∈ z,x.row.length ≤ w + 5) ∧ a' ≤ a + 50 * w + 150 ∧ oc.call 97 [.iop (srcV c a),.int .i64 w] = some (.lst true 2 (ets false z),[srcV c a']) := by
  obtain ⟨d1,d2,d3⟩ := drawS_in c w a
  obtain ⟨z,hz⟩ : ∃ z,drawS c w a = z := ⟨_,rfl⟩
  obtain ⟨A,hA⟩ : ∃ A,drawA c w a = A := ⟨_,rfl⟩
  rw [hz] at d1 d2
  rw [hA] at d3
  rcases Nat.eq_zero_or_pos z.length with h0 | h0
  · have hz0 : z = [] := List.eq_nil_of_length_eq_zero h0
    subst hz0
    have := half_s rfl rfl (r_bE c w a hc hw5 ha hz)
    rw [hA] at this
    exact ⟨[],A,by simp,fun x hx => (by cases hx),by omega,by simpa [V.half] using this⟩
  · obtain ⟨i1,i2⟩ := nxtV_in (c:=c) (a:=A) (n:=z.length) (by omega)
    obtain ⟨I,hI⟩ : ∃ I : Nat,nxtV c A z.length = (I : Int) := ⟨(nxtV c A z.length).toNat,by omega⟩
    have hIl : I < z.length := by omega
    obtain ⟨x,hx⟩ : ∃ x,z[I]? = some x := ⟨z[I],by simp [hIl]⟩
    have hxm := d2 x (List.mem_of_getElem? hx)
    obtain ⟨k1,k2⟩ := nxtV_in (c:=c) (a:=A + 1) (n:=20) (by omega)
    by_cases e0 : nxtV c (A + 1) 20 = 0
    · have := half_s rfl rfl (r_b0 c w a A I z hc hw5 ha hz hA h0 hI e0 x hx)
      obtain ⟨b1,b2⟩ := bentR_in c (A + 2)
      have hsh : V.shareL ((ets false z).set I (V.agg [.lst true 1 (ints (bentR c (A + 2)).1),.int .i64 x.w])) = ets false (z.set I ⟨(bentR c (A + 2)).1,x.w⟩) := by
        rw [shareL_map,List.map_set,← shareL_map,ets_shareL]
        simp [V.share,V.shareL,ints_share]
      refine ⟨z.set I ⟨(bentR c (A + 2)).1,x.w⟩,(bentR c (A + 2)).2,by simp;omega,fun y hy => ?_,by omega,by simpa [V.half,hsh] using this⟩
      rcases List.mem_or_eq_of_mem_set hy with hy | rfl
      · have := d2 y hy;omega
      · simp only;omega
    · by_cases e1 : nxtV c (A + 1) 20 = 1
      · have := half_s rfl rfl (r_b1 c w a A I z hc hw5 ha hz hA h0 hI e1 x hx)
        refine ⟨_,A + 3,?_,fun y hy => ?_,by omega,by simpa [V.half] using this⟩
        · simp;omega
        · rcases List.mem_or_eq_of_mem_set hy with hy | rfl
          · have := d2 y hy;omega
          · simp only;omega
      · by_cases e2 : nxtV c (A + 1) 20 = 2
        · have := half_s rfl rfl (r_b2 c w a A I z hc hw5 ha hz hA h0 hI e2 x hx)
          refine ⟨z ++ [x],A + 2,by simp;omega,fun y hy => ?_,by omega,by simpa [V.half] using this⟩
          rcases List.mem_append.1 hy with hy | hy
          · have := d2 y hy;omega
          · rw [List.mem_singleton.1 hy];omega
        · by_cases e3 : nxtV c (A + 1) 20 = 3
          · have := half_s rfl rfl (r_b3 c w a A I z hc hw5 ha hz hA h0 hI e3 x hx)
            refine ⟨List.replicate 201 ⟨[],0⟩,A + 2,by simp,fun y hy => ?_,by omega,by simpa [V.half] using this⟩
            rw [List.eq_of_mem_replicate hy];simp
          · have := half_s rfl rfl (r_b4 c w a A I z hc hw5 ha hz hA h0 hI (by omega) x hx)
            exact ⟨z,A + 2,by omega,fun y hy => (by have := d2 y hy;omega),by omega,by simpa [V.half] using this⟩
abbrev etZ : V := .agg [.lst true 1 [],.int .i64 0]
theorem grow_posT (e : List (Nat × V)) (o : List (Nat × Ob)) (k : Int) (hk : 0 < k) (hk2 : k < 2000000) : oc.call.i 180 [.emp true,.int .i64 k] ⟨e,o,33⟩ 33 = some (.ref 609 0 0,⟨e,(609,⟨false,false,2,List.replicate k.toNat etZ,0⟩) :: o,833⟩) := by
 have h0 : IntKind.i64.wrap (0 - 0) = 0 := by decide
 have hw : IntKind.i64.wrap (k - IntKind.i64.wrap (0 - 0)) = k := by rw [h0,Int.sub_zero];exact wrap_id (by omega) (by omega)
 apply inl_s (by rw [cf_pl];rfl) cd180 rfl rfl (by simp;rfl)
 refine wa_ (wc_region (w_ (aN (h:=wo_nil (e_ (h:=aft_normal (wa_ (wa_ (wc_region (w_ (m_ (h:=w_ (b_ (h:=wo_nil (e_ (h:=aft_normal (?_)))))))))))))))))
 refine c_ (h1:=?_) (h2:=?_)
 rotate_right 1
 focus
  intro c1
  first
  | exact dn c1
  | (
   have d1 := c1;try simp at d1
   refine wc_skip (?_)
   )
 rotate_right 1
 focus
  intro c1
  first
  | exact dn c1
  | (
   have d1 := c1;try simp at d1
   exfalso;omega
   )
 all_goals first
 | (
  refine aft_normal ?_
  refine wa_ (wa_ (wc_region (w_ (m_ (h:=w_ (m_ (h:=w_ (cc (h:=w_ (m_ (h:=w_ (le (h:=w_ (b_ (h:=w_ (b_ (h:=w_ (a_ (h:=wo_nil (e_ (h:=?_)))))))))))))))))))))
  refine aft_normal (wa_ (wc_region (w_ (m_ (h:=w_ (b_ (h:=wo_nil (e_ (h:=aft_normal (?_))))))))))
  refine c_ (h1:=?_) (h2:=?_)
  rotate_right 1
  focus
   intro c2
   first
   | exact dn c2
   | (
    have d2 := c2;try simp at d2
    exfalso;rw [hw] at c2;simp at c2;omega
    )
  rotate_right 1
  focus
   intro c2
   first
   | exact dn c2
   | (
    have d2 := c2;try simp at d2
    refine wc_region (w_ (m_ (h:=w_ (m_ (h:=w_ (cc (h:=w_ (sl (h:=w_ (m_ (h:=w_ (?_))))))))))))
    simp only [hw];refine apZ (h:=?_)
    refine w_ (m_ (h:=w_ (le (h:=w_ (sl (h:=w_ (a_ (h:=wo_nil (e_ (h:=?_))))))))))
    )
  all_goals first
  | (
   refine aft_normal ?_
   refine wa_ (wc_region (w_ (m_ (h:=w_ (a_ (h:=wo_nil (e_ (h:=aft_normal (wc_ret (?_))))))))))
   )
  )
 all_goals (exact ⟨by simp,_,rfl,rfl,rfl⟩)
theorem grow_nilT (e : List (Nat × V)) (o : List (Nat × Ob)) : oc.call.i 180 [.emp true,.int .i64 0] ⟨e,o,33⟩ 33 = some (.emp true,⟨e,o,513⟩) := by
 have h0 : IntKind.i64.wrap (0 - 0) = 0 := by decide
 have hw : IntKind.i64.wrap (0 - IntKind.i64.wrap (0 - 0)) = 0 := by rw [h0];decide
 apply inl_s (by rw [cf_pl];rfl) cd180 rfl rfl (by simp;rfl)
 refine wa_ (wc_region (w_ (aN (h:=wo_nil (e_ (h:=aft_normal (wa_ (wa_ (wc_region (w_ (m_ (h:=w_ (b_ (h:=wo_nil (e_ (h:=aft_normal (?_)))))))))))))))))
 refine c_ (h1:=?_) (h2:=?_)
 rotate_right 1
 focus
  intro c1
  first
  | exact dn c1
  | (
   have d1 := c1;try simp at d1
   refine wc_skip (?_)
   )
 rotate_right 1
 focus
  intro c1
  first
  | exact dn c1
  | (
   have d1 := c1;try simp at d1
   exfalso;omega
   )
 all_goals first
 | (
  refine aft_normal ?_
  refine wa_ (wa_ (wc_region (w_ (m_ (h:=w_ (m_ (h:=w_ (cc (h:=w_ (m_ (h:=w_ (le (h:=w_ (b_ (h:=w_ (b_ (h:=w_ (a_ (h:=wo_nil (e_ (h:=?_)))))))))))))))))))))
  refine aft_normal (wa_ (wc_region (w_ (m_ (h:=w_ (b_ (h:=wo_nil (e_ (h:=aft_normal (?_))))))))))
  refine c_ (h1:=?_) (h2:=?_)
  rotate_right 1
  focus
   intro c2
   first
   | exact dn c2
   | (
    have d2 := c2;try simp at d2
    refine wc_skip (?_)
    )
  rotate_right 1
  focus
   intro c2
   first
   | exact dn c2
   | (
    have d2 := c2;try simp at d2
    exfalso;rw [hw] at c2;simp at c2
    )
  all_goals first
  | (
   refine aft_normal ?_
   refine wa_ (wc_region (w_ (m_ (h:=w_ (a_ (h:=wo_nil (e_ (h:=aft_normal (wc_ret (?_))))))))))
   )
  )
 all_goals (exact ⟨by simp,_,rfl,rfl,rfl⟩)
theorem wS_cutLT {α : Type} {f : α → Nat} {l : List α} {i : Nat} {x : α} (h : l[i]? = some x) : wS f (l.take (i + 1)) = wS f (l.take i) + f x := by
  induction l generalizing i with
  | nil => simp at h
  | cons y r ih =>
    cases i with
    | zero => simp at h;subst h;simp
    | succ i => simp at h;simp only [List.take_succ_cons,wS_cons];rw [ih h];omega
theorem wS_takeLT {α : Type} {f : α → Nat} {l : List α} {i : Nat} : wS f (l.take i) ≤ wS f l := by
  induction l generalizing i with
  | nil => simp
  | cons y r ih =>
    cases i with
    | zero => simp
    | succ i => have := ih (i:=i);simp only [List.take_succ_cons,wS_cons];omega
def lenST (l : List (List Et)) : Nat := wS List.length l
theorem lenS_cutT {l : List (List Et)} {i : Nat} {x : List Et} (h : l[i]? = some x) : lenST (l.take (i + 1)) = lenST (l.take i) + x.length := wS_cutLT h
theorem lenS_takeT {l : List (List Et)} {i : Nat} : lenST (l.take i) ≤ lenST l := wS_takeLT
theorem lenS_flatT {l : List (List Et)} : l.flatten.length = lenST l := by
  induction l with
  | nil => rfl
  | cons x r ih => simp only [List.flatten_cons,List.length_append,ih,lenST,wS_cons]
theorem flat_cutT {l : List (List Et)} {i : Nat} {x : List Et} (h : l[i]? = some x) : (l.take (i + 1)).flatten = (l.take i).flatten ++ x := by
  rw [List.take_add_one,h];simp
theorem l_catSzT (ls : List (List Et)) (hl : ls.length < 2000000) (hs0 : lenST ls < 2000000) : ∀ i : Nat,(i ≤ ls.length) → ∀ s,normE 1 (some [0,3,9,10,11]) s = ⟨[(0,.lst false 0 (etss false ls)),(3,.int .i64 (lenST (ls.take i) : Nat)),(9,.lst false 0 (etss false ls)),(10,.int .i64 ls.length),(11,.int .i64 i)],[],1⟩ →
 oc.loop 94 3 s = some (.exit 0,⟨[(0,.lst false 0 (etss false ls)),(3,.int .i64 (lenST ls : Nat))],[],1⟩) := by
 refine loop_ind (σ:=Nat) (fun i => ls.length - i) _ (fun i => ⟨[(0,.lst false 0 (etss false ls)),(3,.int .i64 (lenST (ls.take i) : Nat)),(9,.lst false 0 (etss false ls)),(10,.int .i64 ls.length),(11,.int .i64 i)],[],1⟩) _ ?_
 intro i hi ih s hs
 refine loop_s cd94 rfl rfl hs ?_
 refine wa_ (wc_region (w_ (b_ (h:=wo_nil (e_ (h:=aft_normal (wa_ (?_))))))))
 refine c_ (h1:=?_) (h2:=?_)
 rotate_right 1
 focus
  intro c1
  first
  | exact dn c1
  | (
   have d1 := c1;try simp at d1
   refine wc_exit (?_)
   )
 rotate_right 1
 focus
  intro c1
  first
  | exact dn c1
  | (
   have d1 := c1;try simp at d1
   have hw := wrap_succ (i:=i) (by omega);obtain ⟨c,hx,e1,g1⟩ := etss_cut (t:=false) (l:=ls) (i:=i) (by omega);have hcut := lenS_cutT hx;have hle := lenS_takeT (l:=ls) (i:=i + 1);have hws : IntKind.i64.wrap ((lenST (ls.take i) : Nat) + (c.length : Int)) = (lenST (ls.take (i + 1)) : Nat) := (wrap_id (by omega) (by omega)).trans (by omega)
   refine wc_skip (?_)
   )
 all_goals first
 | refine aft_exit ?_
 | (
  refine aft_normal ?_
  refine wa_ (wc_block (wa_ (wc_region (w_ (x_ (h:=w_ (l_ (h:=w_ (a_ (h:=wo_nil (e_ (h:=aft_normal (wa_ (wc_region (w_ (m_ (h:=?_)))))))))))))))))
  refine w_ (m_ (h:=w_ (le (h:=w_ (b_ (h:=w_ (a_ (h:=wo_nil (e_ (h:=aft_normal (wa_ (wc_region (w_ (m_ (h:=w_ (b_ (h:=wo_nil (e_ (h:=aft_normal (?_))))))))))))))))))))
  refine c_ (h1:=?_) (h2:=?_)
  rotate_right 1
  focus
   intro c2
   first
   | exact dn c2
   | (
    have d2 := c2;try simp at d2
    refine wc_skip (?_)
    )
  rotate_right 1
  focus
   intro c2
   first
   | exact dn c2
   | (
    have d2 := c2;try simp at d2
    exfalso;clear ih hs;omega
    )
  all_goals refine blk_normal ?_
  all_goals first
  | (
   refine aft_normal ?_
   refine wc_region (w_ (b_ (h:=w_ (m_ (h:=wo_nil (e_ (h:=?_)))))))
   )
  )
 all_goals first
 | (refine (ih (i + 1) (by omega) ?_ _ ?_).trans ?_;(focus (first | omega | (simp;done) | (simp;omega)));(focus (simp [normE,hw,hws];done));(focus (rfl)))
 | (apply end_leaf (ex:=(Ext.exit 0)) 1 (some [0,3]);(focus (simp [normE];rfl));(focus (rw [List.take_of_length_le (by omega)])))
theorem l_catT (ls : List (List Et)) (hl : ls.length < 2000000) (hs0 : lenST ls < 2000000) : ∀ i : Nat,(i ≤ ls.length) → ∀ s,normE 1 (some [6,25,26,27]) s = ⟨[(6,.ref 1 0 (lenST (ls.take i))),(25,.lst false 0 (etss false ls)),(26,.int .i64 ls.length),(27,.int .i64 i)],[(1,⟨false,false,2,ets false (ls.take i).flatten,0⟩)],2⟩ →
 oc.loop 94 11 s = some (.exit 2,⟨[(6,.ref 1 0 (lenST ls))],[(1,⟨false,false,2,ets false ls.flatten,0⟩)],2⟩) := by
 refine loop_ind (σ:=Nat) (fun i => ls.length - i) _ (fun i => ⟨[(6,.ref 1 0 (lenST (ls.take i))),(25,.lst false 0 (etss false ls)),(26,.int .i64 ls.length),(27,.int .i64 i)],[(1,⟨false,false,2,ets false (ls.take i).flatten,0⟩)],2⟩) _ ?_
 intro i hi ih s hs
 refine loop_s cd94 rfl rfl hs ?_
 have hT := lenS_takeT (l:=ls) (i:=i)
 generalize hF : (ls.take i).flatten = F
 have hN : lenST (ls.take i) = F.length := by rw [← hF];exact lenS_flatT.symm
 rw [hN] at hT ⊢
 refine wa_ (wc_region (w_ (b_ (h:=wo_nil (e_ (h:=aft_normal (wa_ (?_))))))))
 refine c_ (h1:=?_) (h2:=?_)
 rotate_right 1
 focus
  intro c1
  first
  | exact dn c1
  | (
   have d1 := c1;try simp at d1
   refine wc_exit (?_)
   )
 rotate_right 1
 focus
  intro c1
  first
  | exact dn c1
  | (
   have d1 := c1;try simp at d1
   have hw := wrap_succ (i:=i) (by omega);obtain ⟨c,hx,e1,g1⟩ := etss_cut (t:=false) (l:=ls) (i:=i) (by omega);have hcut := lenS_cutT hx;rw [hN] at hcut;have hle := lenS_takeT (l:=ls) (i:=i + 1);have hfl := flat_cutT hx;rw [hF] at hfl
   refine wc_skip (?_)
   )
 all_goals first
 | refine aft_exit ?_
 | (
  refine aft_normal ?_
  refine wa_ (wc_block (wa_ (wc_region (w_ (x_ (h:=w_ (l_ (h:=w_ (a_ (h:=wo_nil (e_ (h:=aft_normal (wc_region (w_ (m_ (h:=w_ (m_ (h:=?_))))))))))))))))))
  refine w_ (ap (h:=w_ (a_ (h:=wo_nil (e_ (h:=blk_normal (aft_normal (wc_region (w_ (b_ (h:=w_ (m_ (h:=wo_nil (e_ (h:=?_)))))))))))))))
  )
 all_goals first
 | (refine (ih (i + 1) (by omega) ?_ _ ?_).trans ?_;(focus (first | omega | (simp;done) | (simp;omega)));(focus (simp [normE,hw,hcut,hfl];done));(focus (rfl)))
 | (apply end_leaf (ex:=(Ext.exit 2)) 1 (some [6]);(focus (simp [normE];rfl));(focus (rw [List.take_of_length_le (by omega)] at hF hN;subst hF;simp [hN])))
theorem cat_nilT (ls : List (List Et)) (hl : ls.length < 2000000) (hs0 : lenST ls < 2000000) (hne : 0 < ls.length) (L : List Et) (hL : ls.flatten = L) : ∀ s,normE 1 (some [6,25,26,27]) s = ⟨[(6,.emp true),(25,.lst false 0 (etss false ls)),(26,.int .i64 ls.length),(27,.int .i64 0)],[],1⟩ → oc.loop 94 11 s = some (.exit 2,⟨[(6,.ref 1 0 L.length)],[(1,⟨false,false,2,ets false L,0⟩)],2⟩) := by
 intro s hs
 obtain ⟨c,hx,e1,g1⟩ := etss_cut (t:=false) (l:=ls) (i:=0) hne
 change (etss false ls)[(0 : Int).toNat]? = _ at g1
 have hcut := lenS_cutT hx
 have hfl := flat_cutT hx
 have hle := lenS_takeT (l:=ls) (i:=0 + 1)
 have hw : IntKind.i64.wrap (0 + 1) = 1 := by decide
 have hw1 : IntKind.i64.wrap 1 = 1 := by decide
 have hcl : c.length < 2000000 := by omega
 simp [lenST] at hcut hfl
 refine loop_s cd94 rfl rfl hs ?_
 refine wa_ (wc_region (w_ (b_ (h:=wo_nil (e_ (h:=aft_normal (wa_ (?_))))))))
 refine c_ (h1:=?_) (h2:=?_)
 rotate_right 1
 focus
  intro c1
  first
  | exact dn c1
  | (
   have d1 := c1;try simp at d1
   exfalso;rw [decide_eq_false_iff_not] at c1;omega
   )
 rotate_right 1
 focus
  intro c1
  first
  | exact dn c1
  | (
   have d1 := c1;try simp at d1
   refine wc_skip (?_)
   )
 all_goals first
 | refine aft_exit ?_
 | (
  refine aft_normal ?_
  refine wa_ (wc_block (wa_ (wc_region (w_ (x_ (h:=w_ (l_ (h:=w_ (a_ (h:=wo_nil (e_ (h:=aft_normal (wc_region (w_ (m_ (h:=w_ (m_ (h:=?_))))))))))))))))))
  refine w_ (ap (h:=w_ (a_ (h:=wo_nil (e_ (h:=blk_normal (aft_normal (wc_region (w_ (b_ (h:=w_ (m_ (h:=wo_nil (e_ (h:=?_)))))))))))))))
  )
 all_goals (refine (l_catT ls hl hs0 1 (by omega) _ ?_).trans (by rw [← lenS_flatT,hL]);(simp [normE,hw,hw1,lenST,hcut,hfl];done))
theorem cat_posT (ls : List (List Et)) (k : Nat) (hl : ls.length < 2000000) (hs0 : lenST ls < 2000000) (hne : 0 < ls.length) (L : List Et) (hL : ls.flatten = L) : ∀ s,normE 1 (some [6,25,26,27]) s = ⟨[(6,.ref 1 0 0),(25,.lst false 0 (etss false ls)),(26,.int .i64 ls.length),(27,.int .i64 0)],[(1,⟨false,false,2,List.replicate k etZ,0⟩)],2⟩ → oc.loop 94 11 s = some (.exit 2,⟨[(6,.ref 1 0 L.length)],[(1,⟨false,false,2,ets false L,0⟩)],2⟩) := by
 intro s hs
 obtain ⟨c,hx,e1,g1⟩ := etss_cut (t:=false) (l:=ls) (i:=0) hne
 change (etss false ls)[(0 : Int).toNat]? = _ at g1
 have hcut := lenS_cutT hx
 have hfl := flat_cutT hx
 have hle := lenS_takeT (l:=ls) (i:=0 + 1)
 have hw : IntKind.i64.wrap (0 + 1) = 1 := by decide
 have hw1 : IntKind.i64.wrap 1 = 1 := by decide
 have hcl : c.length < 2000000 := by omega
 simp [lenST] at hcut hfl
 refine loop_s cd94 rfl rfl hs ?_
 refine wa_ (wc_region (w_ (b_ (h:=wo_nil (e_ (h:=aft_normal (wa_ (?_))))))))
 refine c_ (h1:=?_) (h2:=?_)
 rotate_right 1
 focus
  intro c1
  first
  | exact dn c1
  | (
   have d1 := c1;try simp at d1
   exfalso;rw [decide_eq_false_iff_not] at c1;omega
   )
 rotate_right 1
 focus
  intro c1
  first
  | exact dn c1
  | (
   have d1 := c1;try simp at d1
   refine wc_skip (?_)
   )
 all_goals first
 | refine aft_exit ?_
 | (
  refine aft_normal ?_
  refine wa_ (wc_block (wa_ (wc_region (w_ (x_ (h:=w_ (l_ (h:=w_ (a_ (h:=wo_nil (e_ (h:=aft_normal (wc_region (w_ (m_ (h:=w_ (m_ (h:=?_))))))))))))))))))
  refine w_ (ap (h:=w_ (a_ (h:=wo_nil (e_ (h:=blk_normal (aft_normal (wc_region (w_ (b_ (h:=w_ (m_ (h:=wo_nil (e_ (h:=?_)))))))))))))))
  )
 all_goals (refine (l_catT ls hl hs0 1 (by omega) _ ?_).trans (by rw [← lenS_flatT,hL]);(simp [normE,hw,hw1,lenST,hcut,hfl];done))
theorem e_catT (ls : List (List Et)) (hl : ls.length < 2000000) (hs0 : lenST ls < 2000000) (hne : 0 < ls.length) : oc.call 94 [.lst false 0 (etss false ls)] = some (.lst true 2 (ets false ls.flatten),[]) := by
  obtain ⟨L,hL⟩ : ∃ L,ls.flatten = L := ⟨_,rfl⟩
  rw [hL]
  rcases Nat.eq_zero_or_pos (lenST ls) with hz | hz
  · refine fun_s rfl cd94 rfl rfl rfl (by simp;rfl) (by simp;rfl) ?_
    refine wa_ (wc_region (w_ (aN (h:=wo_nil (e_ (h:=aft_normal (wa_ (wc_region (w_ (a_ (h:=wo_nil (e_ (h:=aft_normal (wa_ (wa_ (?_))))))))))))))))
    refine wc_region (w_ (m_ (h:=w_ (le (h:=w_ (m_ (h:=wo_nil (e_ (h:=aft_normal (wc_block (?_)))))))))))
    refine wc_loop (l_catSzT ls hl hs0 0 (by omega) _ (by simp [normE,lenST])) ?_
    refine blk_exit (aft_normal (wa_ (wc_region (w_ (m_ (h:=?_))))))
    first | refine i_ (hc:=(by simp only [hz];exact grow_nilT _ _)) (h:=?_)
    refine w_ (a_ (h:=wo_nil (e_ (h:=aft_normal (wa_ (wa_ (wc_region (w_ (m_ (h:=w_ (le (h:=w_ (m_ (h:=wo_nil (e_ (h:=aft_normal (wc_block (?_))))))))))))))))))
    refine wc_loop (cat_nilT ls hl hs0 hne L hL _ (by simp [normE])) ?_
    refine blk_exit (aft_normal (wa_ (wc_region (w_ (m_ (h:=w_ (a_ (h:=wo_nil (e_ (h:=aft_normal (wc_ret (?_))))))))))))
    all_goals (refine fin_ (hr:=(res_tmp rfl res_nil)) (h:=?_);(focus (simp)))
  · refine fun_s rfl cd94 rfl rfl rfl (by simp;rfl) (by simp;rfl) ?_
    refine wa_ (wc_region (w_ (aN (h:=wo_nil (e_ (h:=aft_normal (wa_ (wc_region (w_ (a_ (h:=wo_nil (e_ (h:=aft_normal (wa_ (wa_ (?_))))))))))))))))
    refine wc_region (w_ (m_ (h:=w_ (le (h:=w_ (m_ (h:=wo_nil (e_ (h:=aft_normal (wc_block (?_)))))))))))
    refine wc_loop (l_catSzT ls hl hs0 0 (by omega) _ (by simp [normE,lenST])) ?_
    refine blk_exit (aft_normal (wa_ (wc_region (w_ (m_ (h:=?_))))))
    first | refine i_ (hc:=grow_posT _ _ (lenST ls : Nat) (by omega) (by omega)) (h:=?_)
    refine w_ (a_ (h:=wo_nil (e_ (h:=aft_normal (wa_ (wa_ (wc_region (w_ (m_ (h:=w_ (le (h:=w_ (m_ (h:=wo_nil (e_ (h:=aft_normal (wc_block (?_))))))))))))))))))
    refine wc_loop (cat_posT ls (lenST ls) hl hs0 hne L hL _ (by simp [normE])) ?_
    refine blk_exit (aft_normal (wa_ (wc_region (w_ (m_ (h:=w_ (a_ (h:=wo_nil (e_ (h:=aft_normal (wc_ret (?_))))))))))))
    all_goals (refine fin_ (hr:=(res_tmp rfl res_nil)) (h:=?_);(focus (simp)))
end Go.Proofs.Ytgkbmiaimjpbfaa.Ev
namespace Go.Proofs.Ytgkbmiaimjpbfaa.Ev
open Go
set_option maxRecDepth 100000
set_option linter.unusedSimpArgs false
set_option linter.unusedVariables false
set_option maxHeartbeats 2000000
def w_Etss (l : List (List Et)) : Nat := l.length + wS w_Ets l
theorem w_Etss_mem {l : List (List Et)} {x : List Et} (h : x ∈ l) : l.length + w_Ets x ≤ w_Etss l := by
  have := wS_mem (f:=w_Ets) h;unfold w_Etss;omega
theorem w_Etss_len {l : List (List Et)} : l.length ≤ w_Etss l := by unfold w_Etss;omega
def setsF : List (List Et) → Int
  | [] => 0
  | z :: r => if setC z = 0 then setsF r else setC z
theorem setsF_0 {z : List Et} {r : List (List Et)} (h : setC z = 0) : setsF (z :: r) = setsF r := by rw [setsF,if_pos h]
theorem setsF_1 {z : List Et} {r : List (List Et)} (h : ¬ setC z = 0) : setsF (z :: r) = setC z := by rw [setsF,if_neg h]
theorem setsF_ok : ∀ {L : List (List Et)},setsF L = 0 → ∀ z ∈ L,setC z = 0
  | [],_,z,hz => by cases hz
  | y :: r,h,z,hz => by
    by_cases hy : setC y = 0
    · rw [setsF_0 hy] at h
      rcases List.mem_cons.1 hz with rfl | hz
      · exact hy
      · exact setsF_ok h z hz
    · rw [setsF_1 hy] at h;exact absurd h hy
theorem l_setsF (L : List (List Et)) (hL : L.length < 2000000) (hw : ∀ z ∈ L,w_Ets z < 2000000) : ∀ i : Nat,(i ≤ L.length) → ∀ s,normE 1 (some [6,7,8]) s = ⟨[(6,.lst false 0 (etss false L)),(7,.int .i64 L.length),(8,.int .i64 i)],[],1⟩ →
 oc.loop 92 2 s = some (if setsF (L.drop i) = 0 then (.exit 0,⟨[],[],1⟩) else (.ret,⟨[(2,.int .i64 (setsF (L.drop i)))],[],1⟩)) := by
 refine loop_ind (σ:=Nat) (fun i => L.length - i) _ (fun i => ⟨[(6,.lst false 0 (etss false L)),(7,.int .i64 L.length),(8,.int .i64 i)],[],1⟩) _ ?_
 intro i hi ih s hs
 refine loop_s cd92 rfl rfl hs ?_
 refine wa_ (wc_region (w_ (b_ (h:=wo_nil (e_ (h:=aft_normal (wa_ (?_))))))))
 refine c_ (h1:=?_) (h2:=?_)
 rotate_right 1
 focus
  intro c1
  first
  | exact dn c1
  | (
   have d1 := c1;try simp at d1
   refine wc_exit (?_)
   )
 rotate_right 1
 focus
  intro c1
  first
  | exact dn c1
  | (
   have d1 := c1;try simp at d1
   have hj : i < L.length := (by simp at c1;omega);have hwi := wrap_succ (i:=i) (by omega);obtain ⟨z,hx,e1,g1⟩ := etss_cut (t:=false) (l:=L) (i:=i) (by omega);have hz := hw z (List.mem_of_getElem? hx)
   refine wc_skip (?_)
   )
 all_goals first
 | refine aft_exit ?_
 | (
  refine aft_normal ?_
  refine wa_ (wc_block (wa_ (wc_region (w_ (x_ (h:=w_ (l_ (h:=w_ (a_ (h:=wo_nil (e_ (h:=aft_normal (wa_ (wc_region (w_ (m_ (h:=?_)))))))))))))))))
  refine w_ (ca (hc:=e_setI z hz) (h:=w_ (a_ (h:=wo_nil (e_ (h:=aft_normal (wa_ (wc_region (w_ (m_ (h:=w_ (bE (h:=wo_nil (e_ (h:=aft_normal (?_))))))))))))))))
  refine c_ (h1:=?_) (h2:=?_)
  rotate_right 1
  focus
   intro c2
   first
   | exact dn c2
   | (
    have d2 := c2;try simp at d2
    refine wc_skip (?_)
    )
  rotate_right 1
  focus
   intro c2
   first
   | exact dn c2
   | (
    have d2 := c2;try simp at d2
    refine wa_ (wc_region (w_ (m_ (h:=w_ (a_ (h:=wo_nil (e_ (h:=aft_normal (wc_ret (?_))))))))))
    )
  all_goals first | refine blk_normal ?_ | refine blk_ret ?_
  all_goals first
  | refine aft_ret ?_
  | (
   refine aft_normal ?_
   refine wc_region (w_ (b_ (h:=w_ (m_ (h:=wo_nil (e_ (h:=?_)))))))
   )
  )
 all_goals first
 | (apply end_leaf (ex:=(Ext.exit 0)) 1 (some [2]);(focus (simp [normE];rfl));(focus (rw [List.drop_eq_nil_of_le (by simp at c1;omega)];rfl)))
 | (apply end_leaf (ex:=Ext.ret) 1 (some [2]);(focus (simp [normE];rfl));(focus (rw [e1,setsF_1 (by simpa using d2),if_neg (by simpa using d2)])))
 | (refine (ih (i + 1) (by omega) ?_ _ ?_).trans ?_;(focus (first | omega | (simp;done) | (simp;omega)));(focus (simp [normE,hwi];done));(focus (rw [e1,setsF_0 (by simpa using d2)])))
theorem e_setsF (L : List (List Et)) (hL : L.length < 2000000) (hw : ∀ z ∈ L,w_Ets z < 2000000) : oc.call 92 [.lst false 0 (etss false L)] = some (.int .i64 (setsF L),[]) := by
 refine fun_s rfl cd92 rfl rfl rfl (by simp;rfl) (by simp;rfl) ?_
 have hl2 := l_setsF L hL hw 0 (by omega)
 simp only [List.drop_zero] at hl2
 refine wa_ (wc_region (w_ (a_ (h:=wo_nil (e_ (h:=aft_normal (wa_ (wa_ (wc_region (w_ (m_ (h:=w_ (le (h:=w_ (m_ (h:=wo_nil (e_ (h:=?_))))))))))))))))))
 refine aft_normal (wc_block (?_))
 refine wc_loopI (hl2 _ (by simp [normE])) ?_ ?_
 rotate_right 1
 focus
  intro c1
  first
  | exact dn c1
  | (
   have d1 := c1;try simp at d1
   skip
   )
 rotate_right 1
 focus
  intro c1
  first
  | exact dn c1
  | (
   have d1 := c1;try simp at d1
   skip
   )
 all_goals first | refine blk_ret ?_ | refine blk_exit ?_
 all_goals first
 | refine aft_ret ?_
 | (
  refine aft_normal ?_
  refine wa_ (wc_region (w_ (a_ (h:=wo_nil (e_ (h:=aft_normal (wc_ret (?_))))))))
  )
 all_goals (refine fin_ (hr:=(res_tmp rfl res_nil)) (h:=?_);(focus (simp [*])))
def mergeN (L : List (List Et)) : Int × List Et := if 16 < L.length then (2,[]) else if setsF L = 0 then ((sumZ L.flatten).2,(sumZ L.flatten).1) else (setsF L,[])
theorem flat_in {L : List (List Et)} (h : setsF L = 0) (hl : L.length ≤ 16) : L.flatten.length ≤ 3200 ∧ ∀ x ∈ L.flatten,rowF x.row = 0 ∧ wOk x.w = true ∧ x.w ≠ 0 := by
  have h1 := setsF_ok h
  refine ⟨?_,fun x hx => ?_⟩
  · have : L.flatten.length ≤ L.length * 200 := by
      clear h hl
      induction L with
      | nil => simp
      | cons y r ih =>
        have h2 := (setC_ok (h1 y (List.mem_cons_self ..))).1
        have h3 := ih (fun z hz => h1 z (List.mem_cons_of_mem _ hz))
        simp only [List.flatten_cons,List.length_append,List.length_cons];omega
    omega
  · obtain ⟨z,hz,hxz⟩ := List.mem_flatten.1 hx
    exact (setC_ok (h1 z hz)).2.1 x hxz
theorem lenST_w {L : List (List Et)} : lenST L + L.length ≤ w_Etss L := by
  unfold lenST w_Etss
  induction L with
  | nil => simp
  | cons y r ih => have := w_Ets_len (l:=y);simp only [wS_cons,List.length_cons] at *;omega
theorem w_mem {L : List (List Et)} (h : w_Etss L < 2000000) : ∀ z ∈ L,w_Ets z < 2000000 := fun z hz => by have := w_Etss_mem hz;omega
theorem cat_0T : ∀ s,normE 1 (some [6,25,26,27]) s = ⟨[(6,.emp true),(25,.lst false 0 []),(26,.int .i64 0),(27,.int .i64 0)],[],1⟩ → oc.loop 94 11 s = some (.exit 2,⟨[(6,.emp true)],[],1⟩) := by
 intro s hs
 refine loop_s cd94 rfl rfl hs ?_
 refine wa_ (wc_region (w_ (b_ (h:=wo_nil (e_ (h:=aft_normal (wa_ (?_))))))))
 refine c_ (h1:=?_) (h2:=?_)
 rotate_right 1
 focus
  intro c1
  first
  | exact dn c1
  | (
   have d1 := c1;try simp at d1
   refine wc_exit (?_)
   )
 rotate_right 1
 focus
  intro c1
  first
  | exact dn c1
  | (
   have d1 := c1;try simp at d1
   exfalso;simp at c1
   )
 all_goals first
 | refine aft_exit ?_
 | (
  refine aft_normal ?_
  refine wa_ (wc_block (wa_ (wc_region (w_ (x_ (h:=w_ (l_ (h:=w_ (a_ (h:=wo_nil (e_ (h:=aft_normal (wc_region (w_ (m_ (h:=w_ (m_ (h:=?_))))))))))))))))))
  refine w_ (ap (h:=w_ (a_ (h:=wo_nil (e_ (h:=blk_normal (aft_normal (wc_region (w_ (b_ (h:=w_ (m_ (h:=wo_nil (e_ (h:=?_)))))))))))))))
  )
 all_goals (apply end_leaf (ex:=(Ext.exit 2)) 1 (some [6]);(focus (simp [normE];rfl));(focus (rfl)))
theorem e_catZ : oc.call 94 [.lst false 0 []] = some (.lst false 0 [],[]) := by
 have h3 := l_catSzT [] (by simp) (by simp [lenST]) 0 (by simp)
 have hz : lenST [] = 0 := rfl
 refine fun_s rfl cd94 rfl rfl rfl (by simp;rfl) (by simp;rfl) ?_
 refine wa_ (wc_region (w_ (aN (h:=wo_nil (e_ (h:=aft_normal (wa_ (wc_region (w_ (a_ (h:=wo_nil (e_ (h:=aft_normal (wa_ (wa_ (?_))))))))))))))))
 refine wc_region (w_ (m_ (h:=w_ (le (h:=w_ (m_ (h:=wo_nil (e_ (h:=aft_normal (wc_block (?_)))))))))))
 refine wc_loop (h3 _ (by simp [normE,lenST])) ?_
 refine blk_exit (aft_normal (wa_ (wc_region (w_ (m_ (h:=?_))))))
 first | refine i_ (hc:=(by simp only [hz];exact grow_nilT _ _)) (h:=?_)
 refine w_ (a_ (h:=wo_nil (e_ (h:=aft_normal (wa_ (wa_ (wc_region (w_ (m_ (h:=w_ (le (h:=w_ (m_ (h:=wo_nil (e_ (h:=aft_normal (wc_block (?_))))))))))))))))))
 refine wc_loop (cat_0T _ (by simp [normE])) ?_
 refine blk_exit (aft_normal (wa_ (wc_region (w_ (m_ (h:=w_ (a_ (h:=wo_nil (e_ (h:=aft_normal (wc_ret (?_))))))))))))
 all_goals (refine fin_ (hr:=(res_tmp rfl res_nil)) (h:=?_);(focus (simp)))
theorem e_mergeI (L : List (List Et)) (hw : w_Etss L < 2000000) : oc.call 29 [.lst false 0 (etss false L)] = some (.agg [.int .i64 (mergeN L).1,.lst true 2 (ets true (mergeN L).2)],[]) := by
 refine fun_s rfl cd29 rfl rfl rfl (by simp;rfl) (by simp;rfl) ?_
 have hlen := w_Etss_len (l:=L)
 have hls := lenST_w (L:=L)
 refine wa_ (wc_region (w_ (al (h:=wo_nil (e_ (h:=aft_normal (wa_ (wa_ (wc_region (w_ (m_ (h:=w_ (le (h:=w_ (b_ (h:=wo_nil (e_ (h:=?_))))))))))))))))))
 refine aft_normal (?_)
 refine c_ (h1:=?_) (h2:=?_)
 rotate_right 1
 focus
  intro c1
  first
  | exact dn c1
  | (
   have d1 := c1;try simp at d1
   have k1 : L.length ≤ 16 := (by first | omega | (simp at d1;omega))
   refine wc_skip (?_)
   )
 rotate_right 1
 focus
  intro c1
  first
  | exact dn c1
  | (
   have d1 := c1;try simp at d1
   refine wa_ (wc_region (w_ (bd (h:=w0 (s_ (h:=wo_nil (e_ (h:=aft_normal (wc_ret (?_))))))))))
   )
 all_goals first
 | refine aft_ret ?_
 | (
  refine aft_normal ?_
  refine wa_ (wa_ (wc_region (w_ (m_ (h:=w_ (ca (hc:=e_setsF L (by omega) (w_mem hw)) (h:=w_ (a_ (h:=wo_nil (e_ (h:=aft_normal (wa_ (wc_region (w_ (m_ (h:=w_ (bE (h:=?_))))))))))))))))))
  refine wo_nil (e_ (h:=aft_normal (?_)))
  refine c_ (h1:=?_) (h2:=?_)
  rotate_right 1
  focus
   intro c2
   first
   | exact dn c2
   | (
    have d2 := c2;try simp at d2
    obtain ⟨k2,k3⟩ := flat_in (L:=L) (by simpa using d2) k1;have k4 : setsF L = 0 := (by simpa using d2);have hsum := e_sumI L.flatten (by omega) (fun x hx => by have := (rowF_zero (k3 x hx).1).1;omega) (fun x hx => wOk_w (k3 x hx).2.1);have hsz := e_sumI [] (by simp) (fun x hx => by cases hx) (fun x hx => by cases hx);rcases (show L = [] ∨ 0 < L.length by cases L <;> simp) with rfl | hz;rotate_right;have hcat := e_catT L (by omega) (by omega) hz;have hM : mergeN L = ((sumZ L.flatten).2,(sumZ L.flatten).1) := (by unfold mergeN;rw [if_neg (by omega),if_pos k4]);obtain ⟨M,hMf⟩ : ∃ M,L.flatten = M := ⟨_,rfl⟩;rw [hMf] at hcat hsum hM
    all_goals
     refine wc_skip (?_)
    )
  rotate_right 1
  focus
   intro c2
   first
   | exact dn c2
   | (
    have d2 := c2;try simp at d2
    refine wa_ (wc_region (w_ (m_ (h:=w_ (bd (h:=w0 (s_ (h:=wo_nil (e_ (h:=aft_normal (wc_ret (?_))))))))))))
    )
  all_goals first
  | refine aft_ret ?_
  | (
   refine aft_normal ?_
   refine wa_ (wc_region (w_ (m_ (h:=?_))))
   first | refine w_ (ca (hc:=hcat) (h:=?_)) | refine w_ (ca (hc:=e_catZ) (h:=?_))
   first | refine w_ (ca (hc:=hsum) (h:=?_)) | refine w_ (ca (hc:=hsz) (h:=?_))
   refine w_ (m_ (h:=w_ (ex (h:=w_ (ex (h:=w_ (a_ (h:=w_ (a_ (h:=wo_nil (e_ (h:=aft_normal (wa_ (wc_region (w_ (m_ (h:=w_ (m_ (h:=w_ (bd (h:=?_)))))))))))))))))))))
   refine w0 (s_ (h:=wo_nil (e_ (h:=aft_normal (wc_ret (?_))))))
   )
  )
 all_goals (refine fin_ (hr:=(res_cell (tys_ok.zero _ _ rfl) rfl (by simp;rfl) (by rfl) res_nil)) (h:=?_);(focus (first | (rw [hM];simp;done) | (unfold mergeN;rw [if_pos (by omega)];simp;done) | (unfold mergeN;rw [if_neg (by omega),if_neg (by simpa using d2)];simp;done) | (simp [mergeN,setsF];done))))
def accF : List (List Et) → List Et → List Et
  | [],o => o
  | z :: r,o => if setC z = 0 then accF r (o ++ z) else o
@[simp] abbrev srE (r : Int × List Et) : V := .agg [.int .i64 r.1,.lst false 0 (ets false r.2)]
theorem e_ss1 (x y : Et) (hx : x.row.length < 2000000) (hy : y.row.length < 2000000) : oc.call 185 [x.v false,y.v false] = some (.bool (decide (x = y)),[]) := by
 refine fun_s rfl cd185 rfl rfl rfl (by simp;rfl) (by simp;rfl) ?_
 refine wa_ (wc_region (w_ (bx (h:=w_ (bx (h:=w_ (a_ (h:=wo_nil (e_ (h:=aft_normal (wa_ (wc_region (w_ (f_ (h:=w_ (l_ (h:=w_ (f_ (h:=?_)))))))))))))))))))
 refine w_ (l_ (h:=w_ (bE (h:=w_ (m_ (h:=?_))))))
 refine gw_ (h1:=?_) (h2:=?_)
 rotate_right 1
 focus
  intro c1
  first
  | exact dn c1
  | (
   have d1 := c1;try simp at d1
   refine go_ (h:=go_ (h:=go_ (h:=go_ (h:=go_ (h:=?_)))))
   )
 rotate_right 1
 focus
  intro c1
  first
  | exact dn c1
  | (
   have d1 := c1;try simp at d1
   refine g_ (h:=w_ (f_ (h:=g_ (h:=w_ (l_ (h:=g_ (h:=w_ (f_ (h:=g_ (h:=w_ (l_ (h:=g_ (h:=w_ (ca (hc:=e_eqG x.row y.row 0 0 (by omega) (by omega)) (h:=?_)))))))))))))))
   )
 all_goals
  refine w_ (pk (h:=w_ (a_ (h:=wo_nil (e_ (h:=?_))))))
 all_goals first
 | (
  refine aft_normal ?_
  refine wc_ret (?_)
  )
 all_goals (refine fin_ (hr:=(res_tmp rfl res_nil)) (h:=?_);(focus (simp [Et.eq_iff] at *;first | (simp [*];done) | grind)))
theorem l_eqF (a b : List Et) (hl : a.length < 2000000) (hab : a.length = b.length) (ha : ∀ x ∈ a,x.row.length < 2000000) (hb : ∀ x ∈ b,x.row.length < 2000000) : ∀ i : Nat,(i ≤ a.length) → ∀ s,normE 3 (some [1,2,15,16,17]) s = ⟨[(1,.lst false 0 (ets false b)),(2,.clo 185 []),(15,.lst false 0 (ets false a)),(16,.int .i64 a.length),(17,.int .i64 i)],[],3⟩ →
 oc.loop 184 4 s = some (if a.drop i = b.drop i then (.exit 0,⟨[],[],3⟩) else (.ret,⟨[(6,.bool false)],[],3⟩)) := by
 refine loop_ind (σ:=Nat) (fun i => a.length - i) _ (fun i => ⟨[(1,.lst false 0 (ets false b)),(2,.clo 185 []),(15,.lst false 0 (ets false a)),(16,.int .i64 a.length),(17,.int .i64 i)],[],3⟩) _ ?_
 intro i hi ih s hs
 refine loop_s cd184 rfl rfl hs ?_
 refine wa_ (wc_region (w_ (b_ (h:=wo_nil (e_ (h:=aft_normal (wa_ (?_))))))))
 refine c_ (h1:=?_) (h2:=?_)
 rotate_right 1
 focus
  intro c1
  first
  | exact dn c1
  | (
   have d1 := c1;try simp at d1
   refine wc_exit (?_)
   )
 rotate_right 1
 focus
  intro c1
  first
  | exact dn c1
  | (
   have d1 := c1;try simp at d1
   have hj : i < a.length := (by simp at c1;omega);have hw := wrap_succ (i:=i) (by omega);obtain ⟨x,hx,e1,g1⟩ := ets_cut (t:=false) (l:=a) (i:=i) (by omega);obtain ⟨y,hy,e2,g2⟩ := ets_cut (t:=false) (l:=b) (i:=i) (by omega)
   refine wc_skip (?_)
   )
 all_goals first
 | refine aft_exit ?_
 | (
  refine aft_normal ?_
  refine wa_ (wc_block (wa_ (wc_region (w_ (m_ (h:=w_ (x_ (h:=w_ (l_ (h:=w_ (al (h:=w_ (a_ (h:=w0 (s_ (h:=wo_nil (e_ (h:=aft_normal (?_)))))))))))))))))))
  refine wa_ (wc_region (w_ (m_ (h:=w_ (m_ (h:=w_ (x_ (h:=w_ (l_ (h:=w_ (al (h:=w0 (s_ (h:=wo_nil (e_ (h:=aft_normal (wa_ (wc_region (?_)))))))))))))))))))
  refine w_ (m_ (h:=w_ (l_ (h:=w_ (l_ (h:=w_ (ca (hc:=e_ss1 x y (ha x (List.mem_of_getElem? hx)) (hb y (List.mem_of_getElem? hy))) (h:=w_ (u_ (h:=wo_nil (e_ (h:=aft_normal (?_)))))))))))))
  refine c_ (h1:=?_) (h2:=?_)
  rotate_right 1
  focus
   intro c2
   first
   | exact dn c2
   | (
    have d2 := c2;try simp at d2
    refine wc_skip (?_)
    )
  rotate_right 1
  focus
   intro c2
   first
   | exact dn c2
   | (
    have d2 := c2;try simp at d2
    refine wa_ (wc_region (w_ (a_ (h:=wo_nil (e_ (h:=aft_normal (wc_ret (?_))))))))
    )
  all_goals first | refine blk_normal ?_ | refine blk_ret ?_
  all_goals first
  | refine aft_ret ?_
  | (
   refine aft_normal ?_
   refine wc_region (w_ (b_ (h:=w_ (m_ (h:=wo_nil (e_ (h:=?_)))))))
   )
  )
 all_goals first
 | (apply end_leaf (ex:=(Ext.exit 0)) 3 (some [6]);(focus (simp [normE];rfl));(focus (rw [List.drop_eq_nil_of_le (by simp at c1;omega),List.drop_eq_nil_of_le (by simp at c1;omega)];rfl)))
 | (apply end_leaf (ex:=Ext.ret) 3 (some [6]);(focus (simp [normE];rfl));(focus (rw [e1,e2,if_neg (fun h => d2 (List.cons.inj h).1)])))
 | (refine (ih (i + 1) (by omega) ?_ _ ?_).trans ?_;(focus (first | omega | (simp;done) | (simp;omega)));(focus (simp [normE,hw];done));(focus (rw [e1,e2];simp [d2])))
theorem e_eqFn (a b : List Et) (hl : a.length < 2000000) (hl2 : b.length < 2000000) (ha : ∀ x ∈ a,x.row.length < 2000000) (hb : ∀ x ∈ b,x.row.length < 2000000) : oc.call 184 [.lst false 0 (ets false a),.lst false 0 (ets false b),.clo 185 []] = some (.bool (decide (a = b)),[]) := by
 refine fun_s rfl cd184 rfl rfl rfl (by simp;rfl) (by simp;rfl) ?_
 refine wa_ (wc_region (w_ (a_ (h:=wo_nil (e_ (h:=aft_normal (wa_ (wa_ (wc_region (w_ (m_ (h:=w_ (le (h:=w_ (m_ (h:=w_ (le (h:=?_))))))))))))))))))
 refine w_ (bE (h:=wo_nil (e_ (h:=aft_normal (?_)))))
 refine c_ (h1:=?_) (h2:=?_)
 rotate_right 1
 focus
  intro c1
  first
  | exact dn c1
  | (
   have d1 := c1;try simp at d1
   have hlen : a.length = b.length := (by simp at c1;omega);have hlp := l_eqF a b hl hlen ha hb 0 (by omega);simp only [List.drop_zero] at hlp
   refine wc_skip (?_)
   )
 rotate_right 1
 focus
  intro c1
  first
  | exact dn c1
  | (
   have d1 := c1;try simp at d1
   have hne : ¬ a = b := (by rintro rfl;simp at c1)
   refine wa_ (wc_region (w_ (a_ (h:=wo_nil (e_ (h:=aft_normal (wc_ret (?_))))))))
   )
 all_goals first
 | refine aft_ret ?_
 | (
  refine aft_normal ?_
  refine wa_ (wa_ (wc_region (w_ (m_ (h:=w_ (le (h:=w_ (m_ (h:=wo_nil (e_ (h:=aft_normal (wc_block (?_)))))))))))))
  refine wc_loopI (hlp _ (by simp [normE])) ?_ ?_
  rotate_right 1
  focus
   intro c2
   first
   | exact dn c2
   | (
    have d2 := c2;try simp at d2
    skip
    )
  rotate_right 1
  focus
   intro c2
   first
   | exact dn c2
   | (
    have d2 := c2;try simp at d2
    skip
    )
  all_goals first | refine blk_ret ?_ | refine blk_exit ?_
  all_goals first
  | refine aft_ret ?_
  | (
   refine aft_normal ?_
   refine wa_ (wc_region (w_ (a_ (h:=wo_nil (e_ (h:=aft_normal (wc_ret (?_))))))))
   )
  )
 all_goals (refine fin_ (hr:=(res_tmp rfl res_nil)) (h:=?_);(focus (simp [*])))
theorem e_same0 (a b : List Et) (hl : a.length < 2000000) (hl2 : b.length < 2000000) (ha : ∀ x ∈ a,x.row.length < 2000000) (hb : ∀ x ∈ b,x.row.length < 2000000) : oc.call 101 [.lst false 0 (ets false a),.lst false 0 (ets false b)] = some (.bool (decide (a = b)),[]) := by
 refine fun_s rfl cd101 rfl rfl rfl (by simp;rfl) (by simp;rfl) ?_
 refine wa_ (wc_region (w_ (a_ (h:=wo_nil (e_ (h:=aft_normal (wa_ (wc_region (w_ (m_ (h:=w_ (m_ (h:=w_ (ca (hc:=e_eqFn a b hl hl2 ha hb) (h:=w_ (a_ (h:=wo_nil (e_ (h:=?_)))))))))))))))))))
 refine aft_normal (wc_ret (?_))
 all_goals (refine fin_ (hr:=(res_tmp rfl res_nil)) (h:=?_);(focus (simp)))
theorem e_sameZ (a b : List Et) (hl : a.length < 2000000) (hl2 : b.length < 2000000) (ha : ∀ x ∈ a,x.row.length < 2000000) (hb : ∀ x ∈ b,x.row.length < 2000000) : oc.call 37 [.lst false 0 (ets false a),.lst false 0 (ets false b)] = some (.bool (decide (a = b)),[]) := by
 refine fun_s rfl cd37 rfl rfl rfl (by simp;rfl) (by simp;rfl) ?_
 refine wa_ (wc_region (w_ (a_ (h:=wo_nil (e_ (h:=aft_normal (wa_ (wc_region (w_ (m_ (h:=w_ (m_ (h:=w_ (ca (hc:=e_same0 a b hl hl2 ha hb) (h:=w_ (a_ (h:=wo_nil (e_ (h:=?_)))))))))))))))))))
 refine aft_normal (wc_ret (?_))
 all_goals (refine fin_ (hr:=(res_tmp rfl res_nil)) (h:=?_);(focus (simp)))
theorem ltT_t {a b : Et} : ltT a b = true ↔ cmpL a.row b.row < 0 := by unfold ltT;rw [decide_eq_true_eq]
theorem ltT_f {a b : Et} : ltT a b = false ↔ 0 ≤ cmpL a.row b.row := by unfold ltT;rw [decide_eq_false_iff_not];exact Int.not_lt
theorem U_ltT : Sums ltT addT := by
  refine ⟨⟨fun {x y} h => ?_,fun {x y z} h1 h2 => ?_⟩,fun {x c d} => rfl,fun {x c d} => rfl,fun {a b} h1 h2 => ?_,fun {x a b} => ?_⟩
  · have := cmpL_anti x.row y.row
    rw [ltT_t] at h;rw [ltT_f];omega
  · rw [ltT_f] at *
    exact cmpL_tr h2 h1
  · have h3 := cmpL_anti a.row b.row
    rw [ltT_f] at h1 h2
    have h4 : a.row = b.row := cmpL_eq.1 (by omega)
    cases a;cases b
    simp only [addT,Et.mk.injEq] at *
    exact ⟨h4,wrap_c⟩
  · simp only [addT,Et.mk.injEq,true_and]
    exact wrap_ac
theorem sum_perm {z l : List Et} (h : setC z = 0) (hp : l.Perm z) : sumZ l = (z,0) := by
  obtain ⟨h1,h2,h3⟩ := setC_ok h
  unfold sumZ
  rw [show l.foldl putT [] = z.foldl putT [] from putG_perm U_ltT hp [],show z.foldl putT [] = [] ++ z from putG_sorted z [] (by simpa using h3)]
  rw [List.nil_append]
  unfold sumB
  have hb : z.any badT = false := by
    rw [List.any_eq_false]
    intro x hx
    have := (h2 x hx).2.1
    simp only [wOk] at this
    simp [badT,this]
  have hf : z.filter isUT = z := by
    rw [List.filter_eq_self]
    intro x hx
    simpa [isUT] using (h2 x hx).2.2
  rw [hb,hf]
  simp only [Bool.false_eq_true,if_false]
  rw [if_neg (by omega)]
theorem setR_sub : ∀ {l m : List Et} {p : Option Et},(∀ x ∈ l,rowF x.row = 0 ∧ wOk x.w = true ∧ x.w ≠ 0) → (match p with | some q => (q :: l).Pairwise (fun x y => ltT x y = true) | none => l.Pairwise (fun x y => ltT x y = true)) → setR p l = 0
  | [],_,p,_,_ => by cases p <;> rfl
  | c :: r,m,p,h,hp => by
    obtain ⟨a1,a2,a3⟩ := h c (List.mem_cons_self ..)
    have hpw : (c :: r).Pairwise (fun x y => ltT x y = true) := by
      cases p with
      | none => exact hp
      | some q => exact (List.pairwise_cons.1 hp).2
    rw [setR_0 a1 (by simp [a2,a3]) (by
      cases p with
      | none => simp
      | some q =>
        have := (List.pairwise_cons.1 hp).1 c (List.mem_cons_self ..)
        rw [ltT_t] at this
        simpa using this)]
    exact setR_sub (m:=m) (p:=some c) (fun x hx => h x (List.mem_cons_of_mem _ hx)) hpw
theorem setC_sub {z q : List Et} (h : setC z = 0) (hq : q.Sublist z) : setC q = 0 := by
  obtain ⟨h1,h2,h3⟩ := setC_ok h
  have := hq.length_le
  unfold setC
  rw [if_neg (by omega)]
  exact setR_sub (m:=[]) (p:=none) (fun x hx => h2 x (hq.subset hx)) (h3.sublist hq)
theorem setsF_all : ∀ {L : List (List Et)},(∀ q ∈ L,setC q = 0) → setsF L = 0
  | [],_ => rfl
  | q :: r,h => by rw [setsF_0 (h q (List.mem_cons_self ..))];exact setsF_all (fun x hx => h x (List.mem_cons_of_mem _ hx))
theorem parts_perm {f : List Int → Int} {m : Nat} : ∀ {z : List Et},(∀ e ∈ z,0 ≤ f e.row ∧ f e.row < m) → (partsN f m z).flatten.Perm z := by
  intro z
  induction m generalizing z with
  | zero =>
    intro h
    cases z with
    | nil => exact List.Perm.refl _
    | cons e r => have := h e (List.mem_cons_self ..);omega
  | succ m ih =>
    intro h
    have e1 : partsN f (m + 1) z = partsN f m (z.filter fun e => decide (f e.row ≠ (m : Int))) ++ [z.filter fun e => decide (f e.row = (m : Int))] := by
      unfold partsN
      rw [List.range_succ,List.map_append]
      congr 1
      apply List.map_congr_left
      intro k hk
      rw [List.filter_filter]
      apply List.filter_congr
      intro e _
      have : k < m := List.mem_range.1 hk
      by_cases hh : f e.row = (k : Int)
      · simp [hh];omega
      · simp [hh]
    rw [e1,List.flatten_append]
    simp only [List.flatten_cons,List.flatten_nil,List.append_nil]
    have h2 := ih (z:=z.filter fun e => decide (f e.row ≠ (m : Int))) (fun e he => by
      obtain ⟨a,b⟩ := List.mem_filter.1 he
      have := h e a
      simp at b
      omega)
    refine (h2.append_right _).trans ?_
    have h3 := List.filter_append_perm (fun e : Et => decide (f e.row = (m : Int))) z
    refine List.Perm.trans List.perm_append_comm ?_
    refine List.Perm.trans ?_ h3
    refine List.Perm.of_eq ?_
    congr 1
    apply List.filter_congr
    intro e _
    simp
theorem merge_parts {f : List Int → Int} {m : Nat} {z : List Et} (hm : m ≤ 16) (h : setC z = 0) (hf : ∀ e ∈ z,0 ≤ f e.row ∧ f e.row < m) : mergeN (partsN f m z) = (0,z) := by
  unfold mergeN
  rw [if_neg (by simp [partsN];omega),if_pos (setsF_all (fun q hq => setC_sub h (partsN_mem hq))),sum_perm h (parts_perm hf)]
end Go.Proofs.Ytgkbmiaimjpbfaa.Ev
namespace Go.Proofs.Ytgkbmiaimjpbfaa.Ev
open Go
set_option maxRecDepth 100000
set_option linter.unusedSimpArgs false
set_option linter.unusedVariables false
set_option maxHeartbeats 2000000
theorem e_lwBig (c : List Int) (h : c.length < 400000000000000) : oc.call 21 [.lst false 0 (bys c)] = some (.bool (decide (1048576 < c.length)),[]) := by
 refine fun_s rfl cd21 rfl rfl rfl (by simp;rfl) (by simp;rfl) ?_
 refine wa_ (wc_region (w_ (a_ (h:=wo_nil (e_ (h:=aft_normal (wa_ (wc_region (w_ (m_ (h:=w_ (le (h:=w_ (b_ (h:=w_ (a_ (h:=wo_nil (e_ (h:=?_)))))))))))))))))))
 refine aft_normal (wc_ret (?_))
 all_goals (refine fin_ (hr:=(res_tmp rfl res_nil)) (h:=?_);(focus (simp;omega)))
theorem e_shOf (m k : Int) (r : List Int) (hm : 1 ≤ m ∧ m ≤ 3 ∧ 0 ≤ k ∧ k ≤ 4) (hr : rowF r = 0) (h1 : k ≤ r.length) : oc.call 36 [.int .i64 m,.lst false 0 (ints r),.int .i64 k] = some (.agg [.int .i64 0,.int .i64 (shardN m r k)],[]) := by
 refine fun_s rfl cd36 rfl rfl rfl (by simp;rfl) (by simp;rfl) ?_
 have hw := (rowF_zero hr).1
 have hmm : (inI m 1 3 && inI k 0 4) = true := by simp [inI];omega
 refine wa_ (wc_region (w_ (al (h:=wo_nil (e_ (h:=aft_normal (wa_ (wa_ (wc_region (w_ (m_ (h:=w_ (m_ (h:=w_ (ca (hc:=e_areW m k) (h:=w_ (u_ (h:=?_))))))))))))))))))
 refine wo_nil (e_ (h:=aft_normal (?_)))
 refine c_ (h1:=?_) (h2:=?_)
 rotate_right 1
 focus
  intro c1
  first
  | exact dn c1
  | (
   have d1 := c1;try simp at d1
   refine wc_skip (?_)
   )
 rotate_right 1
 focus
  intro c1
  first
  | exact dn c1
  | (
   have d1 := c1;try simp at d1
   exfalso;rw [hmm] at c1;simp at c1
   )
 all_goals first
 | refine aft_ret ?_
 | (
  refine aft_normal ?_
  refine wa_ (wa_ (wc_region (w_ (m_ (h:=w_ (ca (hc:=e_rowI r (by omega)) (h:=w_ (a_ (h:=wo_nil (e_ (h:=aft_normal (wa_ (wc_region (w_ (m_ (h:=w_ (bE (h:=?_))))))))))))))))))
  refine wo_nil (e_ (h:=aft_normal (?_)))
  refine c_ (h1:=?_) (h2:=?_)
  rotate_right 1
  focus
   intro c2
   first
   | exact dn c2
   | (
    have d2 := c2;try simp at d2
    refine wc_skip (?_)
    )
  rotate_right 1
  focus
   intro c2
   first
   | exact dn c2
   | (
    have d2 := c2;try simp at d2
    exfalso;rw [hr] at c2;simp at c2
    )
  all_goals first
  | refine aft_ret ?_
  | (
   refine aft_normal ?_
   refine wa_ (wa_ (wc_region (w_ (m_ (h:=w_ (ca (hc:=e_size 0 (ints r) (by simp;omega)) (h:=w_ (m_ (h:=w_ (b_ (h:=wo_nil (e_ (h:=aft_normal (?_))))))))))))))
   refine c_ (h1:=?_) (h2:=?_)
   rotate_right 1
   focus
    intro c3
    first
    | exact dn c3
    | (
     have d3 := c3;try simp at d3
     refine wc_skip (?_)
     )
   rotate_right 1
   focus
    intro c3
    first
    | exact dn c3
    | (
     have d3 := c3;try simp at d3
     exfalso;simp at c3;omega
     )
   all_goals first
   | refine aft_ret ?_
   | (
    refine aft_normal ?_
    refine wa_ (wc_region (w_ (m_ (h:=w_ (m_ (h:=w_ (m_ (h:=w_ (ca (hc:=e_shardI m k r (by omega) (by omega) (by omega) h1) (h:=w_ (bd (h:=w0 (s_ (h:=wo_nil (e_ (h:=aft_normal (wc_ret (?_))))))))))))))))))
    )
   )
  )
 all_goals (refine fin_ (hr:=(res_cell (tys_ok.zero _ _ rfl) rfl (by simp;rfl) (by rfl) res_nil)) (h:=?_);(focus (simp)))
def sevP : List Int := [1,2,3,2,3,0,4]
def sixP : List Int := [1,0,2,1,5,-1]
theorem r_drawSp (c : List Int) (v a' : Nat) (z : List Et) (hc : okS c) (hv : nxtV c 1 3 = v) (hv2 : v < 3) (hz : z.length ≤ 201) (ha : a' < 1000000) (hb : oc.call 97 [.iop (srcV c 2),.int .i64 ((1 + v : Nat) : Int)] = some (.lst true 2 (ets false z),[srcV c a'])) : runE oc cf 35 [.lst false 0 (bys c)] = some (.tup [.int .i64 (at0 sevP (nxtV c 0 7)),.lst true 2 (ets false z),.int .i64 (at0 sixP (nxtV c a' 6))],[]) := by
 refine run_s cd35 rfl rfl rfl (by first | (simp;rfl) | rfl) (by first | (simp;rfl) | rfl) ?_
 have hnx : oc.call 98 [.iop (srcV c 1),.int .i64 3] = some (.int .i64 v,[srcV c (1 + 1)]) := by rw [← hv];exact e_next c 1 3 hc (by omega) (by omega)
 have h6 : sixP.length = 6 := rfl
 have h7 : sevP.length = 7 := rfl
 have hT : (ets false z).take z.length = ets false z := List.take_of_length_le (by simp)
 refine wa_ (wc_region (w_ (a_ (h:=w_ (aN (h:=w_ (a_ (h:=wo_nil (e_ (h:=aft_normal (wa_ (wc_region (w_ (m_ (h:=?_)))))))))))))))
 refine iE (h:=?_)
 apply Exists.intro
 apply Exists.intro
 apply Exists.intro
 apply And.intro
 focus
  apply inl_s (by rw [cf_pl];rfl) cd84 rfl rfl (by simp;rfl)
  refine wa_ (wc_region (w_ (aP (h:=wo_nil (e_ (h:=aft_normal (wa_ (wc_region (w_ (m_ (h:=w_ (bd (h:=w_ (bx (h:=w_ (a_ (h:=wo_nil (e_ (h:=?_)))))))))))))))))))
  refine aft_normal (wc_ret (?_))
  exact ⟨by simp,_,rfl,rfl,rfl⟩
 refine ⟨_,(by (simp;rfl)),?_⟩
 refine w_ (a_ (h:=wo_nil (e_ (h:=aft_normal (wa_ (wc_region (w_ (m_ (h:=w_ (bs (h:=w_ (cPT (hc:=e_pick c 0 sevP hc (by omega) (by simp [sevP]) (by simp [sevP])) (h:=w_ (m_ (h:=w_ (m_ (h:=w_ (cP (hc:=hnx) (h:=w_ (?_))))))))))))))))))))
 refine b_ (hv:=iv_add (c:=1 + v) (by simp) (by omega)) (h:=?_)
 refine w_ (cP (hc:=hb) (h:=w_ (m_ (h:=w_ (bs (h:=w_ (cPT (hc:=e_pick c a' sixP hc (by omega) (by simp [sixP]) (by simp [sixP])) (h:=w_ (a_ (h:=w_ (a_ (h:=w_ (a_ (h:=wo_nil (e_ (h:=aft_normal (wc_ret (?_))))))))))))))))))
 all_goals (refine fin_ (hr:=(res_tmp rfl (res_tmp rfl (res_tmp rfl res_nil)))) (h:=?_);(focus (simp [hT,h6,h7])))
theorem e_drawSp (c : List Int) (hc : okS c) : ∃ (m : Int) (z : List Et) (k : Int),z.length ≤ 201 ∧ (∀ x ∈ z,x.row.length ≤ 8) ∧ oc.call 35 [.lst false 0 (bys c)] = some (.tup [.int .i64 m,.lst false 0 (ets false z),.int .i64 k],[]) := by
  obtain ⟨h1,h2⟩ := nxtV_in (c:=c) (a:=1) (n:=3) (by omega)
  obtain ⟨v,hv⟩ : ∃ v : Nat,nxtV c 1 3 = (v : Int) := ⟨(nxtV c 1 3).toNat,by omega⟩
  obtain ⟨z,a',z1,z2,z3,z4⟩ := e_bent c (1 + v) 2 hc (by omega) (by omega)
  have := half_s rfl rfl (r_drawSp c v a' z hc hv (by omega) z1 (by omega) z4)
  exact ⟨_,z,_,z1,fun x hx => by have := z2 x hx;omega,by simpa [V.half,V.shareL,V.share] using this⟩
theorem e_splitH (m k : Int) (z : List Et) (hz : w_Ets z < 2000000) : oc.call 15 [.int .i64 m,.lst false 0 (ets false z),.int .i64 k] = some (.agg [.int .i64 (splitN m z k).1,.lst true 1 (etss false (splitN m z k).2)],[]) := by
  have := half_s rfl rfl (r_splitI m k z hz)
  simpa [V.half,V.halfL,V.shareL,V.share,srv] using this
theorem part_in {z : List Et} {M w : Nat} {k : Int} {q : List Et} (hsc : setC z = 0) (hl : longE z k = false) (hq : (partsN (shf M k) M z)[w]? = some q) : ∀ e ∈ q,rowF e.row = 0 ∧ k ≤ e.row.length ∧ shardN M e.row k = w := by
  intro e he
  have hw : w < M := by have := (List.getElem?_eq_some_iff.1 hq).1;simpa using this
  have hqe : q = z.filter fun e => decide (shf M k e.row = (w : Int)) := by
    simp [partsN,hw] at hq;exact hq.symm
  rw [hqe] at he
  obtain ⟨h1,h2⟩ := List.mem_filter.1 he
  exact ⟨((setC_ok hsc).2.1 e h1).1,longE_row hl h1,of_decide_eq_true h2⟩
theorem l_shIn (M : Nat) (k : Int) (z : List Et) (w : Nat) (N : Nat) (q : List Et) (hm : 1 ≤ M ∧ M ≤ 3 ∧ 0 ≤ k ∧ k ≤ 4) (hz : w_Ets z < 2000000) (hN : N < 1000000) (hsc : setC z = 0) (hl : longE z k = false) (hq : (partsN (shf M k) M z)[w]? = some q) : ∀ i : Nat,(i ≤ q.length) → ∀ s,normE 1 (some [3,4,5,6,7,8,9]) s = ⟨[(3,.int .i64 M),(4,.lst false 0 (ets false z)),(5,.int .i64 k),(6,.ptr 1 0 []),(7,.int .i64 N),(8,.int .i64 w),(9,.int .i64 i)],[(1,⟨true,false,2,[.agg [.int .i64 0,.ref 2 0 M]],0⟩),(2,⟨false,false,1,etss false (partsN (shf M k) M z),0⟩)],3⟩ →
 oc.loop 6 13 s = some (.exit 2,⟨[(3,.int .i64 M),(4,.lst false 0 (ets false z)),(5,.int .i64 k),(6,.ptr 1 0 []),(7,.int .i64 N),(8,.int .i64 w)],[(1,⟨true,false,2,[.agg [.int .i64 0,.ref 2 0 M]],0⟩),(2,⟨false,false,1,etss false (partsN (shf M k) M z),0⟩)],3⟩) := by
 refine loop_ind (σ:=Nat) (fun i => q.length - i) _ (fun i => ⟨[(3,.int .i64 M),(4,.lst false 0 (ets false z)),(5,.int .i64 k),(6,.ptr 1 0 []),(7,.int .i64 N),(8,.int .i64 w),(9,.int .i64 i)],[(1,⟨true,false,2,[.agg [.int .i64 0,.ref 2 0 M]],0⟩),(2,⟨false,false,1,etss false (partsN (shf M k) M z),0⟩)],3⟩) _ ?_
 intro i hi ih s hs
 refine loop_s cd6 rfl rfl hs ?_
 have hwM : w < M := by have := (List.getElem?_eq_some_iff.1 hq).1;simpa using this
 have hql : q.length < 2000000 := by have := w_Ets_len (l:=q);have := w_Ets_sub (partsN_mem (List.mem_of_getElem? hq));omega
 have g2 : (etss false (partsN (shf M k) M z))[w]? = some (.lst false 0 (ets false q)) := etss_get (t:=false) hq
 refine wa_ (wa_ (wc_region (w_ (m_ (h:=w_ (f_ (h:=w_ (l_ (h:=w_ (m_ (h:=w_ (x_ (h:=w_ (l_ (h:=w_ (le (h:=w_ (b_ (h:=wo_nil (e_ (h:=?_)))))))))))))))))))))
 refine aft_normal (?_)
 refine c_ (h1:=?_) (h2:=?_)
 rotate_right 1
 focus
  intro c1
  first
  | exact dn c1
  | (
   have d1 := c1;try simp at d1
   refine wc_exit (?_)
   )
 rotate_right 1
 focus
  intro c1
  first
  | exact dn c1
  | (
   have d1 := c1;try simp at d1
   have hw := wrap_succ (i:=i) (by omega);obtain ⟨c,hx,e1,g1⟩ := ets_cut (t:=false) (l:=q) (i:=i) (by omega);obtain ⟨p1,p2,p3⟩ := part_in hsc hl hq c (List.mem_of_getElem? hx)
   refine wc_skip (?_)
   )
 all_goals first
 | refine aft_exit ?_
 | (
  refine aft_normal ?_
  refine wa_ (wc_block (wa_ (wc_region (w_ (m_ (h:=w_ (f_ (h:=w_ (l_ (h:=w_ (m_ (h:=w_ (x_ (h:=w_ (l_ (h:=w_ (m_ (h:=w_ (x_ (h:=?_))))))))))))))))))))
  refine w_ (f_ (h:=w_ (l_ (h:=w_ (m_ (h:=w_ (ca (hc:=e_shOf M k c.row (by omega) p1 p2) (h:=w_ (fi (h:=w_ (m_ (h:=w_ (bE (h:=wo_nil (e_ (h:=aft_normal (?_)))))))))))))))))
  refine c_ (h1:=?_) (h2:=?_)
  rotate_right 1
  focus
   intro c2
   first
   | exact dn c2
   | (
    have d2 := c2;try simp at d2
    refine wc_skip (?_)
    )
  rotate_right 1
  focus
   intro c2
   first
   | exact dn c2
   | (
    have d2 := c2;try simp at d2
    refine wa_ (wc_region (w_ (a_ (h:=wo_nil (e_ (h:=aft_normal (wc_ret (?_))))))))
    )
  all_goals first | refine blk_normal ?_ | refine blk_ret ?_
  all_goals first
  | refine aft_ret ?_
  | (
   refine aft_normal ?_
   refine wc_region (w_ (m_ (h:=w_ (b_ (h:=w_ (a_ (h:=wo_nil (e_ (h:=?_)))))))))
   )
  )
 all_goals first
 | (refine (ih (i + 1) (by omega) ?_ _ ?_).trans ?_;(focus (first | omega | (simp;done) | (simp;omega)));(focus (simp [normE,hw,p3];done));(focus (rfl)))
 | (apply end_leaf (ex:=Ext.ret) 1 (some [2,3,4,5,6,7,8]);(focus (simp [normE];rfl));(focus (exfalso;simp [p3] at *)))
 | (apply end_leaf (ex:=(Ext.exit 2)) 1 (some [2,3,4,5,6,7,8]);(focus (simp [normE];rfl));(focus (rfl)))
def cntP (k : Int) (M : Nat) (z : List Et) (w : Nat) : Nat := ((partsN (shf M k) M z).take w).flatten.length
theorem cntP_0 {k : Int} {M : Nat} {z : List Et} : cntP k M z 0 = 0 := by simp [cntP]
theorem cntP_succ {k : Int} {M : Nat} {z q : List Et} {w : Nat} (h : (partsN (shf M k) M z)[w]? = some q) : cntP k M z w + q.length = cntP k M z (w + 1) := by
  unfold cntP
  rw [List.take_add_one,h];simp
theorem flat_take_le (L : List (List Et)) : ∀ (n : Nat),(L.take n).flatten.length ≤ L.flatten.length := by
  induction L with
  | nil => intro n;simp
  | cons x r ih =>
    intro n
    cases n with
    | zero => simp
    | succ n => have := ih n;simp only [List.take_succ_cons,List.flatten_cons,List.length_append];omega
theorem cntP_le {k : Int} {M : Nat} {z : List Et} {w : Nat} (hM : 0 < M) : cntP k M z w ≤ z.length := by
  have h := (parts_perm (f:=shf M k) (m:=M) (z:=z) (fun e _ => shardN_in (by omega))).length_eq
  rw [← h];exact flat_take_le _ _
theorem cntP_all {k : Int} {M : Nat} {z : List Et} (hM : 0 < M) : cntP k M z M = z.length := by
  have h := (parts_perm (f:=shf M k) (m:=M) (z:=z) (fun e _ => shardN_in (by omega))).length_eq
  unfold cntP;rw [partsN_take,h]
theorem l_shOut (M : Nat) (k : Int) (z : List Et) (hm : 1 ≤ M ∧ M ≤ 3 ∧ 0 ≤ k ∧ k ≤ 4) (hz : w_Ets z < 2000000) (hsc : setC z = 0) (hl : longE z k = false) : ∀ w : Nat,(w ≤ M) → ∀ s,normE 1 (some [3,4,5,6,7,8]) s = ⟨[(3,.int .i64 M),(4,.lst false 0 (ets false z)),(5,.int .i64 k),(6,.ptr 1 0 []),(7,.int .i64 (cntP k M z w)),(8,.int .i64 w)],[(1,⟨true,false,2,[.agg [.int .i64 0,.ref 2 0 M]],0⟩),(2,⟨false,false,1,etss false (partsN (shf M k) M z),0⟩)],3⟩ →
 oc.loop 6 9 s = some (.exit 0,⟨[(3,.int .i64 M),(4,.lst false 0 (ets false z)),(6,.ptr 1 0 []),(7,.int .i64 z.length)],[(1,⟨true,false,2,[.agg [.int .i64 0,.ref 2 0 M]],0⟩),(2,⟨false,false,1,etss false (partsN (shf M k) M z),0⟩)],3⟩) := by
 refine loop_ind (σ:=Nat) (fun w => M - w) _ (fun w => ⟨[(3,.int .i64 M),(4,.lst false 0 (ets false z)),(5,.int .i64 k),(6,.ptr 1 0 []),(7,.int .i64 (cntP k M z w)),(8,.int .i64 w)],[(1,⟨true,false,2,[.agg [.int .i64 0,.ref 2 0 M]],0⟩),(2,⟨false,false,1,etss false (partsN (shf M k) M z),0⟩)],3⟩) _ ?_
 intro w hi ih s hs
 refine loop_s cd6 rfl rfl hs ?_
 have hzl := w_Ets_len (l:=z)
 have hz2 := (setC_ok hsc).1
 refine wa_ (wa_ (wc_region (w_ (m_ (h:=w_ (f_ (h:=w_ (l_ (h:=w_ (le (h:=w_ (b_ (h:=wo_nil (e_ (h:=aft_normal (?_))))))))))))))))
 refine c_ (h1:=?_) (h2:=?_)
 rotate_right 1
 focus
  intro c1
  first
  | exact dn c1
  | (
   have d1 := c1;try simp at d1
   refine wc_exit (?_)
   )
 rotate_right 1
 focus
  intro c1
  first
  | exact dn c1
  | (
   have d1 := c1;try simp at d1
   have hj : w < M := (by simp at c1;omega);have hw := wrap_succ (i:=w) (by omega);obtain ⟨q,hq,e1,g1⟩ := etss_cut (t:=false) (l:=partsN (shf M k) M z) (i:=w) (by simp;omega);have hql := (partsN_mem (List.mem_of_getElem? hq)).length_le;have hfl := cntP_succ hq;have hle := cntP_le (k:=k) (M:=M) (z:=z) (w:=w + 1) (by omega)
   refine wc_skip (?_)
   )
 all_goals first
 | refine aft_exit ?_
 | (
  refine aft_normal ?_
  refine wa_ (wc_block (wa_ (wc_region (w_ (m_ (h:=w_ (f_ (h:=w_ (l_ (h:=w_ (m_ (h:=w_ (x_ (h:=w_ (l_ (h:=w_ (le (h:=w_ (?_)))))))))))))))))))
  refine b_ (hv:=iv_add (c:=cntP k M z (w + 1)) (by rw [← hfl];simp) (by omega)) (h:=?_)
  refine w_ (a_ (h:=wo_nil (e_ (h:=aft_normal (wa_ (wc_region (w_ (a_ (h:=wo_nil (e_ (h:=aft_normal (wc_block (?_)))))))))))))
  refine wc_loop (l_shIn M k z w (cntP k M z (w + 1)) q hm hz (by omega) hsc hl hq 0 (by omega) _ (by simp [normE])) ?_
  first | refine blk_ret ?_ | refine blk_exit ?_
  first | refine blk_normal ?_ | refine blk_ret ?_
  all_goals first
  | refine aft_ret ?_
  | (
   refine aft_normal ?_
   refine wc_region (w_ (m_ (h:=w_ (b_ (h:=w_ (a_ (h:=wo_nil (e_ (h:=?_)))))))))
   )
  )
 all_goals first
 | (refine (ih (w + 1) (by omega) ?_ _ ?_).trans ?_;(focus (first | omega | (simp;done) | (simp;omega)));(focus (simp [normE,hw];done));(focus (rfl)))
 | (apply end_leaf (ex:=(Ext.exit 0)) 1 (some [2,3,4,6,7]);(focus (simp [normE];rfl));(focus ((have hwm : w = M := by simp at c1;omega);subst hwm;rw [cntP_all (by omega)])))
theorem e_splitT (m k : Int) (z : List Et) (hz : w_Ets z < 2000000) : oc.call 13 [.int .i64 m,.lst false 0 (ets false z),.int .i64 k] = some (.agg [.int .i64 (splitN m z k).1,.lst true 1 (etss true (splitN m z k).2)],[]) := e_splitS m k z hz
theorem splitN_0 {m k : Int} {z : List Et} (h : (splitN m z k).1 = 0) : ∃ M : Nat,m = M ∧ (1 ≤ M ∧ M ≤ 3 ∧ 0 ≤ k ∧ k ≤ 4) ∧ setC z = 0 ∧ longE z k = false ∧ (splitN m z k).2 = partsN (shf M k) M z := by
  by_cases h1 : (inI m 1 3 && inI k 0 4) = true
  · have h2 : 1 ≤ m ∧ m ≤ 3 ∧ 0 ≤ k ∧ k ≤ 4 := by simp [inI] at h1;omega
    obtain ⟨M,rfl⟩ : ∃ M : Nat,m = M := ⟨m.toNat,by omega⟩
    by_cases h3 : setC z = 0
    · cases h4 : longE z k with
      | true => exfalso;simp [splitN,h1,h3,h4] at h
      | false => exact ⟨M,rfl,by omega,h3,rfl,by simp [splitN,h1,h3,h4]⟩
    · exfalso;simp [splitN,h1,h3] at h
  · exfalso;simp only [splitN,if_neg h1] at h;cases h
theorem e_fnShards (c : List Int) (hb : ∀ x ∈ c,0 ≤ x ∧ x < 256) (hl4 : c.length < 400000000000000) : oc.call 6 [.lst false 0 (bys c)] = some (.bool true,[]) := by
 refine fun_s rfl cd6 rfl rfl rfl (by simp;rfl) (by simp;rfl) ?_
 refine wa_ (wc_region (w_ (a_ (h:=wo_nil (e_ (h:=aft_normal (wa_ (wa_ (wc_region (w_ (m_ (h:=w_ (ca (hc:=e_lwBig c hl4) (h:=wo_nil (e_ (h:=aft_normal (?_)))))))))))))))))
 refine c_ (h1:=?_) (h2:=?_)
 rotate_right 1
 focus
  intro c1
  first
  | exact dn c1
  | (
   have d1 := c1;try simp at d1
   have hok : okS c := ⟨by omega,hb⟩;obtain ⟨m,z,k,z1,z2,hdr⟩ := e_drawSp c hok;have hwz : w_Ets z < 2000000 := (by have := wS_leS (f:=w_Et) (c:=8) (l:=z) z2;unfold w_Ets;have : z.length * 8 ≤ 201 * 8 := Nat.mul_le_mul_right _ z1;omega);have hspI := e_splitH m k z hwz;have hspS := e_splitT m k z hwz
   refine wc_skip (?_)
   )
 rotate_right 1
 focus
  intro c1
  first
  | exact dn c1
  | (
   have d1 := c1;try simp at d1
   refine wa_ (wc_region (w_ (a_ (h:=wo_nil (e_ (h:=aft_normal (wc_ret (?_))))))))
   )
 all_goals first
 | refine aft_ret ?_
 | (
  refine aft_normal ?_
  refine wa_ (wc_region (w_ (m_ (h:=w_ (ca (hc:=hdr) (h:=w_ (m_ (h:=w_ (ex (h:=w_ (ex (h:=w_ (ex (h:=w_ (a_ (h:=w_ (a_ (h:=w_ (a_ (h:=wo_nil (e_ (h:=?_))))))))))))))))))))))
  refine aft_normal (wa_ (wc_region (w_ (m_ (h:=w_ (m_ (h:=w_ (m_ (h:=w_ (ca (hc:=hspI) (h:=w_ (al (h:=w0 (s_ (h:=wo_nil (e_ (h:=aft_normal (wa_ (?_)))))))))))))))))))
  refine wa_ (wc_region (w_ (f_ (h:=w_ (l_ (h:=w_ (bE (h:=wo_nil (e_ (h:=aft_normal (?_)))))))))))
  refine c_ (h1:=?_) (h2:=?_)
  rotate_right 1
  focus
   intro c2
   first
   | exact dn c2
   | (
    have d2 := c2;try simp at d2
    obtain ⟨M,rfl,hm,hsc,hlE,hL⟩ := splitN_0 (m:=m) (k:=k) (z:=z) (by simp at c2;exact c2);have hC : (splitN (M : Int) z k).1 = 0 := (by simp at c2;exact c2);rw [hC,hL] at *;have hmg := merge_parts (f:=shf M k) (m:=M) (z:=z) (by omega) hsc (fun e _ => shardN_in (by omega));have hwp : w_Etss (partsN (shf M k) M z) < 2000000 := (by have h7 : wS w_Ets (partsN (shf M k) M z) ≤ (partsN (shf M k) M z).length * 100000 := wS_leS (fun q hq => (by have h6 := w_Ets_sub (partsN_mem hq);have h8 := wS_leS (f:=w_Et) (c:=8) (l:=z) z2;unfold w_Ets at h6;have : z.length * 8 ≤ 201 * 8 := Nat.mul_le_mul_right _ z1;unfold w_Ets at *;omega));unfold w_Etss;rw [partsN_len] at *;have : M * 100000 ≤ 3 * 100000 := Nat.mul_le_mul_right _ (by omega);omega);have hmI := e_mergeI (partsN (shf M k) M z) hwp;rw [hmg] at hmI;have hsm := e_sameZ z z (by omega) (by omega) (fun x hx => by have := z2 x hx;omega) (fun x hx => by have := z2 x hx;omega)
    refine wc_skip (?_)
    )
  rotate_right 1
  focus
   intro c2
   first
   | exact dn c2
   | (
    have d2 := c2;try simp at d2
    refine wa_ (wc_draw (y_ (m_ (h:=ax_ (h:=y_ (m_ (h:=ax_ (h:=y_ (m_ (h:=ax_ (h:=y_ (ca (hc:=hspS) (h:=ax_ (h:=y_ (fi (h:=ax_ (h:=y_ (f_ (h:=ax_ (h:=y_ (l_ (h:=ax_ (h:=y_ (bE (h:=ax_ (h:=y_ (a_ (h:=ax_ (h:=wo_nil (ed (h:=?_)))))))))))))))))))))))))))))))
    refine aft_normal (wc_ret (?_))
    )
  all_goals first
  | refine aft_ret ?_
  | (
   refine aft_normal ?_
   refine wa_ (wc_region (w_ (a_ (h:=wo_nil (e_ (h:=aft_normal (wa_ (wa_ (wc_region (w_ (a_ (h:=wo_nil (e_ (h:=aft_normal (wc_block (?_))))))))))))))))
   refine wc_loop (l_shOut M k z hm hwz hsc hlE 0 (by omega) _ (by simp [normE,cntP_0])) ?_
   first | refine blk_ret ?_ | refine blk_exit ?_
   all_goals first
   | refine aft_ret ?_
   | (
    refine aft_normal ?_
    refine wa_ (wc_region (w_ (f_ (h:=w_ (l_ (h:=w_ (ca (hc:=hmI) (h:=w_ (al (h:=w0 (s_ (h:=wo_nil (e_ (h:=aft_normal (wa_ (wc_region (w_ (f_ (h:=?_)))))))))))))))))))
    refine w_ (l_ (h:=w_ (le (h:=w_ (m_ (h:=w_ (bE (h:=w_ (m_ (h:=?_))))))))))
    refine gw_ (h1:=?_) (h2:=?_)
    rotate_right 1
    focus
     intro c3
     first
     | exact dn c3
     | (
      have d3 := c3;try simp at d3
      refine go_ (h:=go_ (h:=go_ (h:=go_ (h:=?_))))
      )
    rotate_right 1
    focus
     intro c3
     first
     | exact dn c3
     | (
      have d3 := c3;try simp at d3
      refine g_ (h:=w_ (m_ (h:=g_ (h:=w_ (m_ (h:=g_ (h:=w_ (le (h:=g_ (h:=w_ (bE (h:=?_))))))))))))
      )
    all_goals
     refine w_ (pk (h:=w_ (m_ (h:=?_))))
     refine gw_ (h1:=?_) (h2:=?_)
     rotate_right 1
     focus
      intro c4
      first
      | exact dn c4
      | (
       have d4 := c4;try simp at d4
       refine go_ (h:=go_ (h:=go_ (h:=?_)))
       )
     rotate_right 1
     focus
      intro c4
      first
      | exact dn c4
      | (
       have d4 := c4;try simp at d4
       refine g_ (h:=w_ (f_ (h:=g_ (h:=w_ (l_ (h:=g_ (h:=w_ (bE (h:=?_)))))))))
       )
     all_goals
      refine w_ (pk (h:=w_ (m_ (h:=?_))))
      refine gw_ (h1:=?_) (h2:=?_)
      rotate_right 1
      focus
       intro c5
       first
       | exact dn c5
       | (
        have d5 := c5;try simp at d5
        refine go_ (h:=go_ (h:=go_ (h:=go_ (h:=?_))))
        )
      rotate_right 1
      focus
       intro c5
       first
       | exact dn c5
       | (
        have d5 := c5;try simp at d5
        refine g_ (h:=w_ (f_ (h:=g_ (h:=w_ (l_ (h:=g_ (h:=w_ (m_ (h:=g_ (h:=w_ (ca (hc:=hsm) (h:=?_))))))))))))
        )
      all_goals
       refine w_ (pk (h:=w_ (a_ (h:=wo_nil (e_ (h:=?_))))))
    all_goals first
    | (
     refine aft_normal ?_
     refine wc_ret (?_)
     )
    )
   )
  )
 all_goals (refine fin_ (hr:=(res_tmp rfl res_nil)) (h:=?_);(focus (simp)))
end Go.Proofs.Ytgkbmiaimjpbfaa.Ev
namespace Go.Proofs.Ytgkbmiaimjpbfaa.Ev
open Go
set_option maxRecDepth 100000
set_option linter.unusedSimpArgs false
set_option linter.unusedVariables false
set_option maxHeartbeats 2000000
def okBy (c : List Int) : Prop := c.length ≤ 140737488351232 ∧ ∀ x ∈ c,0 ≤ x ∧ x < 256
theorem dByte {t : TypeId} {n : Nat} {v : V} (hu : Try.prog.underlying t = some (.int .u8)) (h : hasT Try.prog (n + 1) t v) : ∃ m,v = .int .u8 m ∧ (0 ≤ m ∧ m < 256) := by
  obtain ⟨m,e,h1,h2⟩ := dec_int hu h
  exact ⟨m,e,by simp [IntKind.min,IntKind.max,IntKind.signed,IntKind.bits] at h1 h2;omega⟩
theorem dBytes {n : Nat} {v : V} (h : hasT Try.prog (n + 2) 35 v) : ∃ l,v = .lst false 0 (bys l) ∧ okBy l := by
  obtain ⟨xs,e,h1,h2⟩ := dec_slice Try.underlying35 h
  obtain ⟨l,e2,h3⟩ := dec_list (f:=fun m => V.int .u8 m) (p:=fun m => 0 ≤ m ∧ m < 256) (fun x hx => by have q := h2 x hx;first | exact dByte Try.underlying5 q | exact dByte Try.underlying3 q | exact dByte Try.underlying4 q | exact dByte Try.underlying6 q | exact dByte Try.underlying7 q | exact dByte Try.underlying8 q)
  exact ⟨l,by rw [e,e2];rfl,by rw [e2] at h1;simpa using h1,h3⟩
theorem law_fnShards (c : List Int) (h : okBy c) : oc.call 6 [.lst false 0 (bys c)] = some (.bool true,[]) := e_fnShards c h.2 (by have := h.1;omega)
end Go.Proofs.Ytgkbmiaimjpbfaa.Ev
