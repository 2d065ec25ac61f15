/- Part 5 of the proof that the law named in the last part returns true at every argument: an evaluator of the program, shown sound, and its runs. No further conditions. -/
import Derived.Test.YtgkbmiaimjpbfaaML2604
namespace Go.Proofs.Ytgkbmiaimjpbfaa.Ev
open Go
set_option maxRecDepth 100000
set_option linter.unusedSimpArgs false
set_option linter.unusedVariables false
set_option maxHeartbeats 2000000
section
variable {call : Call} {id base : Nat} {e : List (Nat × V)} {o : List (Nat × Ob)} {n : Nat} {t : TypeId} {K : V → List (Nat × Ob) → Prop}
theorem cI {args : Array Operand} {ts : Array TypeId} {fo : Operand} {f : FuncId} {q m : Nat} {vs ys : List V} {ob : Ob} {o1 : List (Nat × Ob)} (hx : opsV e args.toList = some (.ref q 0 m :: vs) := by exact rfl) (hf : opV e fo = some (.clo f []) := by exact rfl) (hB : cf.inB f = false := by (rw [cf_in];rfl)) (hmd : cf.md f = [.io] := by (rw [cf_md];rfl)) (ho : geta o q = some ob := by exact rfl) (hb : ob.bx = false := by rfl) (hl : m = ob.xs.length := by first | rfl | (simp;done) | (simp;omega))
    (hc : call f (.iol ob.sz ob.xs :: vs) = some (.tup [],[.lst true ob.sz ys])) (hal : V.alikeL ob.xs ys = true) (hd : dela o q = o1 := by (simp;rfl)) (hlv : ∀ s : St,lendV [] vs s = some (vs,s,[]) := by intro s;rfl) (hsv : ∀ s : St,snapsV s [] vs = some vs := by intro s;rfl) (hp : plainM [.io] (.ref q 0 m :: vs) = [] := by rfl)
    (h : K (.tup []) ((q,⟨false,ob.fx,ob.sz,ys,ob.ver + 1⟩) :: o1)) : opK call cf id base e o n t (.call ⟨.value fo,args,ts⟩) K := by
  subst hd hl
  refine k_call hx hf hB rfl (bs:=.iol ob.sz ob.xs :: vs) (s1:=⟨e,dela o q,n⟩) (lent:=[(q,ob)]) (asv:=.iol ob.sz ob.xs :: vs) (ro:=[.lst true ob.sz ys]) (s2:=⟨e,(q,⟨false,ob.fx,ob.sz,ys,ob.ver + 1⟩) :: dela o q,n⟩) ?_ ?_ hc rfl ?_ ?_ rfl ?_
  · rw [hmd,List.append_nil]
    simp only [lendV,lendOne,List.headD_cons,List.tail_cons,ho,hb,if_true,and_self,hlv,List.append_nil]
  · rw [hmd]
    simp only [snapsV,List.headD_cons,List.tail_cons,hsv,V.snapA,V.snapP,V.snap,mp_some]
  · rw [hmd,List.append_nil,hp]
    exact ⟨.inl rfl,by simp [V.thaw]⟩
  · simp only [backs,backOne,hb,hal,Bool.false_eq_true,if_false,and_self,if_true,puta]
  · exact h
end
theorem iv_sub {a b : Int} {c : Nat} (h : a - b = c) (hc : c < 4000000000000000000) : intV .sub .i64 a b = some (.int .i64 c) := by
  simp only [intV];rw [wrap_id (by omega) (by omega),h]
theorem iv_add {a b : Int} {c : Nat} (h : a + b = c) (hc : c < 4000000000000000000) : intV .add .i64 a b = some (.int .i64 c) := by
  simp only [intV];rw [wrap_id (by omega) (by omega),h]
theorem iv_mul {a b : Int} {c : Nat} (h : a * b = c) (hc : c < 4000000000000000000) : intV .mul .i64 a b = some (.int .i64 c) := by
  simp only [intV];rw [wrap_id (by omega) (by omega),h]
@[simp] theorem Ct.ne_undC (x : Ct) : (x.v = V.und) = False := by simp [Ct.v]
theorem tnat {a b : Nat} : ((a : Int) + (b : Int)).toNat = a + b := by omega
instance : Inhabited Ct := ⟨⟨0,0,0⟩⟩
def ltC (a b : Ct) : Bool := decide (byC a b < 0)
theorem cts_nth {r : List Ct} {j : Nat} (h : j < r.length) : (cts r)[j]? = some (nth r j).v := by
  simp [cts,nth_get h]
theorem cts_setS {r : List Ct} {j : Nat} {x : Ct} : (cts r).set j x.v = cts (r.set j x) := by simp [cts,List.map_set]
theorem bub_t {α : Type} [Inhabited α] {lt : α → α → Bool} {a j : Nat} {l : List α} (h : a < j) (h2 : lt (nth l j) (nth l (j - 1)) = true) : bub lt a j l = bub lt a (j - 1) (swp l j (j - 1)) := by
  obtain ⟨k,rfl⟩ : ∃ k,j = k + 1 := ⟨j - 1,by omega⟩
  conv => lhs;unfold bub
  rw [if_pos ⟨h,h2⟩];rfl
theorem bub_f {α : Type} [Inhabited α] {lt : α → α → Bool} {a j : Nat} {l : List α} (h : ¬ (a < j ∧ lt (nth l j) (nth l (j - 1)) = true)) : bub lt a j l = l := by
  cases j with
  | zero => rfl
  | succ k => unfold bub;exact if_neg h
theorem l_bubC (a b i N : Nat) (hN : N < 2000000) (hb : b ≤ N) (hai : a < i) (hib : i < b) : ∀ x : Nat × (List Ct),(a ≤ x.1 ∧ x.1 ≤ i ∧ x.2.length = N) → ∀ s,normE 4 (some [0,1,2,3,8,9]) s = ⟨[(0,.ref 0 0 N),(1,.int .i64 a),(2,.int .i64 b),(3,.clo 202 []),(8,.int .i64 i),(9,.int .i64 x.1)],[(0,⟨false,true,3,cts x.2,0⟩)],4⟩ →
 oc.loop 250 4 s = some (.exit 2,⟨[(0,.ref 0 0 N),(1,.int .i64 a),(2,.int .i64 b),(3,.clo 202 []),(8,.int .i64 i)],[(0,⟨false,true,3,cts (bub ltC a x.1 x.2),0⟩)],4⟩) := by
 refine loop_ind (σ:=Nat × (List Ct)) (fun x => x.1) _ (fun x => ⟨[(0,.ref 0 0 N),(1,.int .i64 a),(2,.int .i64 b),(3,.clo 202 []),(8,.int .i64 i),(9,.int .i64 x.1)],[(0,⟨false,true,3,cts x.2,0⟩)],4⟩) _ ?_
 rintro ⟨j,r⟩ hi ih s hs
 simp only at hi
 refine loop_s cd250 rfl rfl hs ?_
 obtain ⟨hi1,hi2,hi3⟩ := hi
 have g1 : (cts r)[j]? = some (nth r j).v := cts_nth (by omega)
 have g2 : (cts r)[j - 1]? = some (nth r (j - 1)).v := cts_nth (by omega)
 refine wa_ (wa_ (wc_draw (y_ (m_ (h:=ax_ (h:=y_ (m_ (h:=ax_ (h:=y_ (b_ (h:=ax_ (h:=y_ (m_ (h:=ax_ (h:=?_)))))))))))))))
 refine gw_ (h1:=?_) (h2:=?_)
 rotate_right 1
 focus
  intro c1
  first
  | exact dn c1
  | (
   have d1 := c1;try simp at d1
   refine gd_ (h:=gd_ (h:=gd_ (h:=gd_ (h:=gd_ (h:=gd_ (h:=gd_ (h:=gd_ (h:=gd_ (h:=gd_ (h:=gd_ (h:=gd_ (h:=?_))))))))))))
   )
 rotate_right 1
 focus
  intro c1
  first
  | exact dn c1
  | (
   have d1 := c1;try simp at d1
   refine g_ (h:=y_ (m_ (h:=ax_ (h:=g_ (h:=y_ (m_ (h:=ax_ (h:=g_ (h:=y_ (m_ (h:=ax_ (h:=g_ (h:=y_ (x_ (h:=ax_ (h:=g_ (h:=y_ (l_ (h:=ax_ (h:=g_ (h:=y_ (m_ (h:=ax_ (h:=g_ (h:=y_ (m_ (h:=ax_ (h:=g_ (h:=y_ (?_))))))))))))))))))))))))))))))
   refine b_ (hv:=iv_sub (c:=j - 1) (by omega) (by omega)) (h:=?_)
   refine ax_ (h:=g_ (h:=y_ (x_ (h:=ax_ (h:=g_ (h:=y_ (l_ (h:=ax_ (h:=g_ (h:=y_ (ca (hc:=e_byC (nth r j) (nth r (j - 1))) (h:=ax_ (h:=g_ (h:=y_ (b_ (h:=ax_ (h:=?_)))))))))))))))))
   )
 all_goals
  refine y_ (pk (h:=ax_ (h:=wo_nil (ed (h:=?_)))))
 all_goals first
 | (
  refine aft_normal ?_
  refine c_ (h1:=?_) (h2:=?_)
  rotate_right 1
  focus
   intro c2
   first
   | exact dn c2
   | (
    have d2 := c2;try simp at d2
    refine wc_exit (?_)
    )
  rotate_right 1
  focus
   intro c2
   first
   | exact dn c2
   | (
    have d2 := c2;try simp at d2
    have g3 : (cts (r.set j (nth r (j - 1))))[j - 1]? = some (nth (r.set j (nth r (j - 1))) (j - 1)).v := cts_nth (by simp;omega)
    refine wc_skip (?_)
    )
  )
 all_goals first
 | refine aft_exit ?_
 | (
  refine aft_normal ?_
  refine wa_ (wc_block (wc_draw (y_ (m_ (h:=ax_ (h:=y_ (m_ (h:=ax_ (h:=y_ (m_ (h:=ax_ (h:=y_ (m_ (h:=ax_ (h:=y_ (?_))))))))))))))))
  refine b_ (hv:=iv_sub (c:=j - 1) (by omega) (by omega)) (h:=?_)
  refine ax_ (h:=y_ (m_ (h:=ax_ (h:=y_ (m_ (h:=ax_ (h:=y_ (?_))))))))
  refine b_ (hv:=iv_sub (c:=j - 1) (by omega) (by omega)) (h:=?_)
  refine ax_ (h:=y_ (x_ (h:=ax_ (h:=y_ (l_ (h:=ax_ (h:=y_ (m_ (h:=ax_ (h:=y_ (m_ (h:=ax_ (h:=y_ (x_ (h:=ax_ (h:=y_ (l_ (h:=ax_ (h:=y_ (x_ (h:=ax_ (h:=y0 (s_ (h:=ax_ (h:=y_ (x_ (h:=ax_ (h:=y0 (s_ (h:=ax_ (h:=wo_nil (ed (h:=?_)))))))))))))))))))))))))))))))))
  refine blk_normal (aft_normal (wc_region (w_ (m_ (h:=w_ (?_))))))
  refine b_ (hv:=iv_sub (c:=j - 1) (by omega) (by omega)) (h:=?_)
  refine w_ (a_ (h:=wo_nil (e_ (h:=?_))))
  )
 all_goals first
 | (refine (ih ((j - 1,swp r j (j - 1))) (⟨by simp only;omega,by simp only;omega,by simp;omega⟩) ?_ _ ?_).trans ?_;(focus (first | omega | (simp;done) | (simp;omega)));(focus (simp [normE,cts_setS,swp];done));(focus (rw [bub_t (lt:=ltC) (a:=a) (j:=j) (l:=r) (by omega) (by simp [ltC];omega)])))
 | (apply end_leaf (ex:=(Ext.exit 2)) 4 (some [0,1,2,3,8]);(focus (simp [normE];rfl));(focus (rw [bub_f (by simp [ltC];omega)])))
theorem l_insC (a b N : Nat) (hN : N < 2000000) (hb : b ≤ N) : ∀ x : Nat × (List Ct),(a < x.1 ∧ x.2.length = N) → ∀ s,normE 4 (some [0,1,2,3,8]) s = ⟨[(0,.ref 0 0 N),(1,.int .i64 a),(2,.int .i64 b),(3,.clo 202 []),(8,.int .i64 x.1)],[(0,⟨false,true,3,cts x.2,0⟩)],4⟩ →
 oc.loop 250 1 s = some (.exit 0,⟨[],[(0,⟨false,true,3,cts (insL ltC a (b - x.1) x.1 x.2),0⟩)],4⟩) := by
 refine loop_ind (σ:=Nat × (List Ct)) (fun x => b - x.1) _ (fun x => ⟨[(0,.ref 0 0 N),(1,.int .i64 a),(2,.int .i64 b),(3,.clo 202 []),(8,.int .i64 x.1)],[(0,⟨false,true,3,cts x.2,0⟩)],4⟩) _ ?_
 rintro ⟨i,r⟩ hi ih s hs
 simp only at hi
 refine loop_s cd250 rfl rfl hs ?_
 obtain ⟨hi1,hi2⟩ := hi
 refine wa_ (wa_ (wc_region (w_ (m_ (h:=w_ (m_ (h:=w_ (b_ (h:=wo_nil (e_ (h:=aft_normal (?_))))))))))))
 refine c_ (h1:=?_) (h2:=?_)
 rotate_right 1
 focus
  intro c1
  first
  | exact dn c1
  | (
   have d1 := c1;try simp at d1
   refine wc_exit (?_)
   )
 rotate_right 1
 focus
  intro c1
  first
  | exact dn c1
  | (
   have d1 := c1;try simp at d1
   have hw := wrap_succ (i:=i) (by omega);have wb := bub_wit (lt:=ltC) (a:=a) (b:=N) (j:=i) (l:=r) (by omega) (by omega) (by omega);have hbl := wb.len
   refine wc_skip (?_)
   )
 all_goals first
 | refine aft_exit ?_
 | (
  refine aft_normal ?_
  refine wa_ (wc_block (wa_ (wc_region (w_ (m_ (h:=w_ (a_ (h:=wo_nil (e_ (h:=aft_normal (wc_block (?_))))))))))))
  refine wc_loop (l_bubC a b i N hN hb hi1 (by omega) (i,r) ⟨by simp only;omega,by simp,hi2⟩ _ (by simp [normE])) ?_
  refine blk_exit (blk_normal (aft_normal (wc_region (w_ (m_ (h:=w_ (b_ (h:=w_ (a_ (h:=wo_nil (e_ (h:=?_))))))))))))
  )
 all_goals first
 | (refine (ih ((i + 1,bub ltC a i r)) (⟨by simp only;omega,by simp;omega⟩) ?_ _ ?_).trans ?_;(focus (first | omega | (simp;done) | (simp;omega)));(focus (simp [normE,hw];done));(focus (rw [show b - i = (b - (i + 1)) + 1 by omega];rfl)))
 | (apply end_leaf (ex:=(Ext.exit 0)) 4 (some []);(focus (simp [normE];rfl));(focus (rw [show b - i = 0 by omega];rfl)))
theorem e_insC (a b : Nat) (l : List Ct) (hN : l.length < 2000000) (hb : b ≤ l.length) (ha : a < 2000000) : oc.call 250 [.iol 3 (cts l),.int .i64 a,.int .i64 b,.clo 202 []] = some (.tup [],[.lst true 3 (cts (ins ltC a b l))]) := by
 refine fun_s rfl cd250 rfl rfl rfl (by simp;rfl) (by simp;rfl) ?_
 have hw := wrap_succ (i:=a) (by omega)
 refine wa_ (wc_region (w_ (m_ (h:=w_ (b_ (h:=w_ (a_ (h:=wo_nil (e_ (h:=aft_normal (wc_block (?_))))))))))))
 refine wc_loop (l_insC a b l.length hN hb (a + 1,l) ⟨by simp,rfl⟩ _ (by simp [normE,hw])) ?_
 refine blk_exit (?_)
 all_goals (refine fin_ (hr:=res_nil) (h:=?_);(focus (simp [ins])))
theorem l_swR (n a0 b0 N : Nat) (hN : N < 2000000) (h1 : a0 + n ≤ b0) (h2 : b0 + n ≤ N) : ∀ x : Nat × (List Ct),(x.1 ≤ n ∧ x.2.length = N) → ∀ s,normE 5 (some [0,1,2,3,10]) s = ⟨[(0,.ref 0 0 N),(1,.int .i64 a0),(2,.int .i64 b0),(3,.int .i64 n),(10,.int .i64 x.1)],[(0,⟨false,true,3,cts x.2,0⟩)],5⟩ →
 oc.loop 261 1 s = some (.exit 0,⟨[],[(0,⟨false,true,3,cts (swR (n - x.1) (a0 + x.1) (b0 + x.1) x.2),0⟩)],5⟩) := by
 refine loop_ind (σ:=Nat × (List Ct)) (fun x => n - x.1) _ (fun x => ⟨[(0,.ref 0 0 N),(1,.int .i64 a0),(2,.int .i64 b0),(3,.int .i64 n),(10,.int .i64 x.1)],[(0,⟨false,true,3,cts x.2,0⟩)],5⟩) _ ?_
 rintro ⟨i,r⟩ hi ih s hs
 simp only at hi
 refine loop_s cd261 rfl rfl hs ?_
 obtain ⟨hi1,hi2⟩ := hi
 refine wa_ (wa_ (wc_region (w_ (m_ (h:=w_ (m_ (h:=w_ (b_ (h:=wo_nil (e_ (h:=aft_normal (?_))))))))))))
 refine c_ (h1:=?_) (h2:=?_)
 rotate_right 1
 focus
  intro c1
  first
  | exact dn c1
  | (
   have d1 := c1;try simp at d1
   refine wc_exit (?_)
   )
 rotate_right 1
 focus
  intro c1
  first
  | exact dn c1
  | (
   have d1 := c1;try simp at d1
   have hw := wrap_succ (i:=i) (by omega);have g1 : (cts r)[a0 + i]? = some (nth r (a0 + i)).v := cts_nth (by omega);have g2 : (cts r)[b0 + i]? = some (nth r (b0 + i)).v := cts_nth (by omega);have g3 : (cts (r.set (a0 + i) (nth r (b0 + i))))[b0 + i]? = some (nth (r.set (a0 + i) (nth r (b0 + i))) (b0 + i)).v := cts_nth (by simp;omega)
   refine wc_skip (?_)
   )
 all_goals first
 | refine aft_exit ?_
 | (
  refine aft_normal ?_
  refine wa_ (wc_block (wc_draw (y_ (m_ (h:=ax_ (h:=y_ (m_ (h:=ax_ (h:=y_ (m_ (h:=ax_ (h:=y_ (?_)))))))))))))
  refine b_ (hv:=iv_add (c:=a0 + i) (by omega) (by omega)) (h:=?_)
  refine ax_ (h:=y_ (m_ (h:=ax_ (h:=y_ (m_ (h:=ax_ (h:=y_ (m_ (h:=ax_ (h:=y_ (?_)))))))))))
  refine b_ (hv:=iv_add (c:=b0 + i) (by omega) (by omega)) (h:=?_)
  refine ax_ (h:=y_ (m_ (h:=ax_ (h:=y_ (m_ (h:=ax_ (h:=y_ (m_ (h:=ax_ (h:=y_ (?_)))))))))))
  refine b_ (hv:=iv_add (c:=b0 + i) (by omega) (by omega)) (h:=?_)
  refine ax_ (h:=y_ (x_ (h:=ax_ (h:=y_ (l_ (h:=ax_ (h:=y_ (m_ (h:=ax_ (h:=y_ (m_ (h:=ax_ (h:=y_ (m_ (h:=ax_ (h:=y_ (?_)))))))))))))))))
  refine b_ (hv:=iv_add (c:=a0 + i) (by omega) (by omega)) (h:=?_)
  refine ax_ (h:=y_ (x_ (h:=ax_ (h:=y_ (l_ (h:=ax_ (h:=y_ (x_ (h:=ax_ (h:=y0 (s_ (h:=ax_ (h:=y_ (x_ (h:=ax_ (h:=y0 (s_ (h:=ax_ (h:=wo_nil (ed (h:=blk_normal (aft_normal (wc_region (w_ (m_ (h:=?_))))))))))))))))))))))))))
  refine w_ (b_ (h:=w_ (a_ (h:=wo_nil (e_ (h:=?_))))))
  )
 all_goals first
 | (refine (ih ((i + 1,swp r (a0 + i) (b0 + i))) (⟨by simp only;omega,by simp;omega⟩) ?_ _ ?_).trans ?_;(focus (first | omega | (simp;done) | (simp;omega)));(focus (simp [normE,hw,cts_setS,swp,tnat];done));(focus (rw [show n - i = (n - (i + 1)) + 1 by omega];rfl)))
 | (apply end_leaf (ex:=(Ext.exit 0)) 5 (some []);(focus (simp [normE];rfl));(focus (rw [show n - i = 0 by omega];rfl)))
theorem e_swR (a b n : Nat) (l : List Ct) (hN : l.length < 2000000) (h1 : a + n ≤ b) (h2 : b + n ≤ l.length) : oc.call 261 [.iol 3 (cts l),.int .i64 a,.int .i64 b,.int .i64 n,.clo 202 []] = some (.tup [],[.lst true 3 (cts (swR n a b l))]) := by
 refine fun_s rfl cd261 rfl rfl rfl (by simp;rfl) (by simp;rfl) ?_
 refine wa_ (wc_region (w_ (a_ (h:=wo_nil (e_ (h:=aft_normal (wc_block (?_))))))))
 refine wc_loop (l_swR n a b l.length hN h1 h2 (0,l) ⟨by simp,rfl⟩ _ (by simp [normE])) ?_
 refine blk_exit (?_)
 all_goals (refine fin_ (hr:=res_nil) (h:=?_);(focus (simp)))
theorem cts_alk : ∀ {l m : List Ct},l.length = m.length → V.alikeL (cts l) (cts m) = true
  | [],[],_ => rfl
  | [],_ :: _,h => by cases h
  | _ :: _,[],h => by cases h
  | x :: l,y :: m,h => by
    have ih := cts_alk (l:=l) (m:=m) (by simpa using h)
    simp only [cts,List.map_cons,V.alikeL] at ih ⊢
    rw [ih];rfl
theorem rot_0 {α : Type} [Inhabited α] {m i j : Nat} {l : List α} (hi : 0 < i) (h : i = j) : rot m i j l = swR i (m - i) m l := by
  unfold rot;rw [if_neg (by omega),if_pos h]
theorem rot_1 {α : Type} [Inhabited α] {m i j : Nat} {l : List α} (hj : 0 < j) (h : j < i) : rot m i j l = rot m (i - j) j (swR j (m - i) m l) := by
  conv => lhs;unfold rot
  rw [if_neg (by omega),if_neg (by omega),if_pos h]
theorem rot_2 {α : Type} [Inhabited α] {m i j : Nat} {l : List α} (hi : 0 < i) (h : i < j) : rot m i j l = rot m i (j - i) (swR i (m - i) (m + j - i) l) := by
  conv => lhs;unfold rot
  rw [if_neg (by omega),if_neg (by omega),if_neg (by omega)]
def rotP (m i j : Nat) (l : List Ct) : Nat × List Ct :=
  if i = 0 ∨ j = 0 ∨ i = j then (i,l) else if j < i then rotP m (i - j) j (swR j (m - i) m l) else rotP m i (j - i) (swR i (m - i) (m + j - i) l)
termination_by i + j
decreasing_by all_goals omega
theorem rotP_0 {m i j : Nat} {l : List Ct} (h : i = j) : rotP m i j l = (i,l) := by
  unfold rotP;rw [if_pos (by omega)]
theorem rotP_1 {m i j : Nat} {l : List Ct} (hj : 0 < j) (h : j < i) : rotP m i j l = rotP m (i - j) j (swR j (m - i) m l) := by
  conv => lhs;unfold rotP
  rw [if_neg (by omega),if_pos h]
theorem rotP_2 {m i j : Nat} {l : List Ct} (hi : 0 < i) (h : i < j) : rotP m i j l = rotP m i (j - i) (swR i (m - i) (m + j - i) l) := by
  conv => lhs;unfold rotP
  rw [if_neg (by omega),if_neg (by omega)]
theorem rotP_ok {m : Nat} : ∀ (i j : Nat) (l : List Ct),0 < i → 0 < j → i ≤ m → m + j ≤ l.length → 0 < (rotP m i j l).1 ∧ (rotP m i j l).1 ≤ i ∧ (rotP m i j l).1 ≤ j ∧ (rotP m i j l).2.length = l.length ∧ swR (rotP m i j l).1 (m - (rotP m i j l).1) m (rotP m i j l).2 = rot m i j l := by
  intro i j
  induction hd : i + j using Nat.strongRecOn generalizing i j with
  | _ d ih =>
    subst hd
    intro l h1 h2 h3 h4
    rcases Nat.lt_trichotomy i j with h | h | h
    · have hs := (swR_ok (n:=i) (a:=m - i) (b:=m + j - i) (l:=l) (by omega) (by omega)).1.length_eq
      rw [rotP_2 h1 h,rot_2 h1 h]
      obtain ⟨a,b,c,d,e⟩ := ih (i + (j - i)) (by omega) i (j - i) rfl (swR i (m - i) (m + j - i) l) h1 (by omega) h3 (by omega)
      exact ⟨a,b,by omega,d.trans hs,e⟩
    · rw [rotP_0 h,rot_0 h1 h]
      exact ⟨h1,Nat.le_refl _,by simp only;omega,rfl,rfl⟩
    · have hs := (swR_ok (n:=j) (a:=m - i) (b:=m) (l:=l) (by omega) (by omega)).1.length_eq
      rw [rotP_1 h2 h,rot_1 h2 h]
      obtain ⟨a,b,c,d,e⟩ := ih (i - j + j) (by omega) (i - j) j rfl (swR j (m - i) m l) (by omega) h2 (by omega) (by omega)
      exact ⟨a,by omega,c,d.trans hs,e⟩
theorem l_rot (m N : Nat) (hN : N < 2000000) : ∀ x : Nat × Nat × (List Ct),(0 < x.1 ∧ 0 < x.2.1 ∧ x.1 ≤ m ∧ m + x.2.1 ≤ N ∧ x.2.2.length = N) → ∀ s,normE 5 (some [0,2,4,10,11]) s = ⟨[(0,.ref 0 0 N),(2,.int .i64 m),(4,.clo 202 []),(10,.int .i64 x.1),(11,.int .i64 x.2.1)],[(0,⟨false,true,3,cts x.2.2,0⟩)],5⟩ →
 oc.loop 258 2 s = some (.exit 0,⟨[(0,.ref 0 0 N),(2,.int .i64 m),(4,.clo 202 []),(10,.int .i64 ((rotP m x.1 x.2.1 x.2.2).1 : Nat))],[(0,⟨false,true,3,cts (rotP m x.1 x.2.1 x.2.2).2,0⟩)],5⟩) := by
 refine loop_ind (σ:=Nat × Nat × (List Ct)) (fun x => x.1 + x.2.1) _ (fun x => ⟨[(0,.ref 0 0 N),(2,.int .i64 m),(4,.clo 202 []),(10,.int .i64 x.1),(11,.int .i64 x.2.1)],[(0,⟨false,true,3,cts x.2.2,0⟩)],5⟩) _ ?_
 rintro ⟨i,j,r⟩ hi ih s hs
 simp only at hi
 refine loop_s cd258 rfl rfl hs ?_
 obtain ⟨hi1,hi2,hi3,hi4,hi5⟩ := hi
 refine wa_ (wa_ (wc_region (w_ (m_ (h:=w_ (m_ (h:=w_ (bE (h:=wo_nil (e_ (h:=aft_normal (?_))))))))))))
 refine c_ (h1:=?_) (h2:=?_)
 rotate_right 1
 focus
  intro c1
  first
  | exact dn c1
  | (
   have d1 := c1;try simp at d1
   refine wc_exit (?_)
   )
 rotate_right 1
 focus
  intro c1
  first
  | exact dn c1
  | (
   have d1 := c1;try simp at d1
   refine wc_skip (?_)
   )
 all_goals first
 | refine aft_exit ?_
 | (
  refine aft_normal ?_
  refine wc_block (wa_ (wc_region (w_ (m_ (h:=w_ (m_ (h:=w_ (b_ (h:=wo_nil (e_ (h:=aft_normal (?_))))))))))))
  refine c_ (h1:=?_) (h2:=?_)
  rotate_right 1
  focus
   intro c2
   first
   | exact dn c2
   | (
    have d2 := c2;try simp at d2
    have hij : i < j := (by simp at *;omega);have hsl := (swR_ok (n:=i) (a:=m - i) (b:=m + j - i) (l:=r) (by omega) (by omega)).1.length_eq
    refine wa_ (wc_region (w_ (m_ (h:=w_ (m_ (h:=w_ (m_ (h:=w_ (?_)))))))))
    refine b_ (hv:=iv_sub (c:=m - i) (by simp only;omega) (by omega)) (h:=?_)
    refine w_ (m_ (h:=w_ (m_ (h:=w_ (?_)))))
    refine b_ (hv:=iv_add (c:=m + j) (by simp only;omega) (by omega)) (h:=?_)
    refine w_ (m_ (h:=w_ (?_)))
    refine b_ (hv:=iv_sub (c:=m + j - i) (by simp only;omega) (by omega)) (h:=?_)
    refine w_ (m_ (h:=w_ (m_ (h:=w_ (?_)))))
    refine cI (hc:=e_swR (m - i) (m + j - i) i r (by omega) (by omega) (by omega)) (hal:=cts_alk hsl.symm) (h:=?_)
    refine wo_nil (e_ (h:=aft_normal (wc_region (w_ (m_ (h:=w_ (m_ (h:=w_ (?_)))))))))
    refine b_ (hv:=iv_sub (c:=j - i) (by simp only;omega) (by omega)) (h:=?_)
    refine w_ (a_ (h:=wo_nil (e_ (h:=?_))))
    )
  rotate_right 1
  focus
   intro c2
   first
   | exact dn c2
   | (
    have d2 := c2;try simp at d2
    have hij : j < i := (by simp at *;omega);have hsl := (swR_ok (n:=j) (a:=m - i) (b:=m) (l:=r) (by omega) (by omega)).1.length_eq
    refine wa_ (wc_region (w_ (m_ (h:=w_ (m_ (h:=w_ (m_ (h:=w_ (?_)))))))))
    refine b_ (hv:=iv_sub (c:=m - i) (by simp only;omega) (by omega)) (h:=?_)
    refine w_ (m_ (h:=w_ (m_ (h:=w_ (m_ (h:=w_ (?_)))))))
    refine cI (hc:=e_swR (m - i) m j r (by omega) (by omega) (by omega)) (hal:=cts_alk hsl.symm) (h:=?_)
    refine wo_nil (e_ (h:=aft_normal (wc_region (w_ (m_ (h:=w_ (m_ (h:=w_ (?_)))))))))
    refine b_ (hv:=iv_sub (c:=i - j) (by simp only;omega) (by omega)) (h:=?_)
    refine w_ (a_ (h:=wo_nil (e_ (h:=?_))))
    )
  all_goals refine blk_normal ?_
  )
 all_goals first
 | (refine (ih ((i - j,j,swR j (m - i) m r)) (⟨by simp only;omega,by simp only;omega,by simp only;omega,by simp only;omega,by simp only;omega⟩) ?_ _ ?_).trans ?_;(focus (first | omega | (simp;done) | (simp;omega)));(focus (simp [normE,tnat];done));(focus (rw [rotP_1 (l:=r) hi2 hij])))
 | (refine (ih ((i,j - i,swR i (m - i) (m + j - i) r)) (⟨by simp only;omega,by simp only;omega,by simp only;omega,by simp only;omega,by simp only;omega⟩) ?_ _ ?_).trans ?_;(focus (first | omega | (simp;done) | (simp;omega)));(focus (simp [normE,tnat];done));(focus (rw [rotP_2 (l:=r) hi1 hij])))
 | (apply end_leaf (ex:=(Ext.exit 0)) 5 (some [0,2,4,10]);(focus (simp [normE];rfl));(focus (rw [rotP_0 (by simp at *;omega)])))
theorem e_rot (a m b : Nat) (l : List Ct) (hN : l.length < 2000000) (h1 : a < m) (h2 : m < b) (h3 : b ≤ l.length) : oc.call 258 [.iol 3 (cts l),.int .i64 a,.int .i64 m,.int .i64 b,.clo 202 []] = some (.tup [],[.lst true 3 (cts (rot m (m - a) (b - m) l))]) := by
 refine fun_s rfl cd258 rfl rfl rfl (by simp;rfl) (by simp;rfl) ?_
 obtain ⟨q1,q2,q3,q4,q5⟩ := rotP_ok (m:=m) (m - a) (b - m) l (by omega) (by omega) (by omega) (by omega)
 have hq := (swR_ok (n:=(rotP m (m - a) (b - m) l).1) (a:=m - (rotP m (m - a) (b - m) l).1) (b:=m) (l:=(rotP m (m - a) (b - m) l).2) (by omega) (by omega)).1.length_eq
 refine wa_ (wc_region (w_ (m_ (h:=w_ (m_ (h:=w_ (?_)))))))
 refine b_ (hv:=iv_sub (c:=m - a) (by omega) (by omega)) (h:=?_)
 refine w_ (a_ (h:=wo_nil (e_ (h:=aft_normal (wa_ (wc_region (w_ (m_ (h:=w_ (m_ (h:=w_ (?_))))))))))))
 refine b_ (hv:=iv_sub (c:=b - m) (by omega) (by omega)) (h:=?_)
 refine w_ (a_ (h:=wo_nil (e_ (h:=aft_normal (wa_ (wc_block (?_)))))))
 refine wc_loop (l_rot m l.length hN (m - a,b - m,l) ⟨by simp only;omega,by simp only;omega,by simp only;omega,by simp only;omega,rfl⟩ _ (by simp [normE])) ?_
 refine blk_exit (aft_normal (wc_region (w_ (m_ (h:=w_ (m_ (h:=w_ (m_ (h:=w_ (?_))))))))))
 refine b_ (hv:=iv_sub (c:=m - (rotP m (m - a) (b - m) l).1) (by simp only;omega) (by omega)) (h:=?_)
 refine w_ (m_ (h:=w_ (m_ (h:=w_ (m_ (h:=w_ (?_)))))))
 refine cI (hc:=e_swR (m - (rotP m (m - a) (b - m) l).1) m (rotP m (m - a) (b - m) l).1 (rotP m (m - a) (b - m) l).2 (by omega) (by omega) (by omega)) (hal:=cts_alk hq.symm) (h:=?_)
 refine wo_nil (e_ (h:=?_))
 all_goals (refine fin_ (hr:=res_nil) (h:=?_);(focus (simp [q5])))
section
variable {call : Call} {id base : Nat} {e : List (Nat × V)} {o : List (Nat × Ob)} {n : Nat} {t : TypeId} {K : V → List (Nat × Ob) → Prop}
theorem cvN {ts t' : TypeId} {x : Operand} {k0 k k1 : IntKind} {a : Int} {c : Nat} (h0 : cf.ints ts = some k0 := by exact tys_ok.ints _ _ rfl) (h1 : cf.ints t' = some k := by exact tys_ok.ints _ _ rfl) (hx : opV e x = some (.int k1 a) := by exact rfl) (hc : k.wrap a = c) (h : K (.int k c) o) : opK call cf id base e o n t (.convert ts t' x) K := cv h0 h1 hx (by rw [hc];exact h)
end
theorem u64_nat {c : Nat} (h : c < 4611686018427387904) : IntKind.u64.wrap (c : Int) = c := by
  unfold IntKind.wrap;simp [IntKind.bits,IntKind.signed];omega
theorem shr1 {c : Nat} : shiftV .shr (.int .u64 (c : Int)) (.int .u64 1) = some (.int .u64 ((c / 2 : Nat) : Int)) := by
  simp only [shiftV,if_neg (show ¬ (1 : Int) < 0 by omega),IntKind.bits]
  rw [Int.fdiv_eq_ediv_of_nonneg _ (by decide)]
  simp
theorem hlf_t {p : Nat → Bool} {i j : Nat} (h : i < j) (hp : p ((i + j) / 2) = true) : hlf p i j = hlf p ((i + j) / 2 + 1) j := by
  conv => lhs;unfold hlf
  rw [dif_pos h,if_pos hp]
theorem hlf_f {p : Nat → Bool} {i j : Nat} (h : i < j) (hp : p ((i + j) / 2) = false) : hlf p i j = hlf p i ((i + j) / 2) := by
  conv => lhs;unfold hlf
  rw [dif_pos h,if_neg (by simp [hp])]
theorem hlf_0 {p : Nat → Bool} {i j : Nat} (h : ¬ i < j) : hlf p i j = i := by
  unfold hlf;rw [dif_neg h]
theorem l_s3 (a N : Nat) (r : List Ct) (hN : N < 2000000) (hr : r.length = N) (ha : a < N) : ∀ x : Nat × Nat,(x.1 ≤ x.2 ∧ x.2 ≤ N) → ∀ s,normE 5 (some [0,1,4,10,11]) s = ⟨[(0,.ref 0 0 N),(1,.int .i64 a),(4,.clo 202 []),(10,.int .i64 x.1),(11,.int .i64 x.2)],[(0,⟨false,true,3,cts r,0⟩)],5⟩ →
 oc.loop 251 3 s = some (.exit 0,⟨[(0,.ref 0 0 N),(1,.int .i64 a),(10,.int .i64 (hlf (fun h => ltC (nth r h) (nth r a)) x.1 x.2 : Nat))],[(0,⟨false,true,3,cts r,0⟩)],5⟩) := by
 refine loop_ind (σ:=Nat × Nat) (fun x => x.2 - x.1) _ (fun x => ⟨[(0,.ref 0 0 N),(1,.int .i64 a),(4,.clo 202 []),(10,.int .i64 x.1),(11,.int .i64 x.2)],[(0,⟨false,true,3,cts r,0⟩)],5⟩) _ ?_
 rintro ⟨i,j⟩ hi ih s hs
 simp only at hi
 refine loop_s cd251 rfl rfl hs ?_
 obtain ⟨hi1,hi2⟩ := hi
 refine wa_ (wa_ (wc_region (w_ (m_ (h:=w_ (m_ (h:=w_ (b_ (h:=wo_nil (e_ (h:=aft_normal (?_))))))))))))
 refine c_ (h1:=?_) (h2:=?_)
 rotate_right 1
 focus
  intro c1
  first
  | exact dn c1
  | (
   have d1 := c1;try simp at d1
   refine wc_exit (?_)
   )
 rotate_right 1
 focus
  intro c1
  first
  | exact dn c1
  | (
   have d1 := c1;try simp at d1
   have g1 : (cts r)[(i + j) / 2]? = some (nth r ((i + j) / 2)).v := cts_nth (by omega);have g2 : (cts r)[a]? = some (nth r a).v := cts_nth (by omega)
   refine wc_skip (?_)
   )
 all_goals first
 | refine aft_exit ?_
 | (
  refine aft_normal ?_
  refine wc_block (wa_ (wc_region (w_ (m_ (h:=w_ (m_ (h:=w_ (?_))))))))
  refine b_ (hv:=iv_add (c:=i + j) (by simp) (by omega)) (h:=?_)
  refine w_ (?_)
  refine cvN (c:=i + j) (hc:=u64_nat (by omega)) (h:=?_)
  refine w_ (?_)
  refine sh (hv:=shr1) (h:=?_)
  refine w_ (?_)
  refine cvN (c:=(i + j) / 2) (hc:=wrap_nat (by omega)) (h:=?_)
  refine w_ (a_ (h:=wo_nil (e_ (h:=aft_normal (wa_ (wc_draw (y_ (m_ (h:=ax_ (h:=y_ (m_ (h:=ax_ (h:=y_ (m_ (h:=ax_ (h:=y_ (x_ (h:=ax_ (h:=y_ (l_ (h:=ax_ (h:=y_ (m_ (h:=ax_ (h:=y_ (m_ (h:=ax_ (h:=?_))))))))))))))))))))))))))))
  refine y_ (x_ (h:=ax_ (h:=y_ (l_ (h:=ax_ (h:=y_ (ca (hc:=e_byC (nth r ((i + j) / 2)) (nth r a)) (h:=ax_ (h:=y_ (b_ (h:=ax_ (h:=wo_nil (ed (h:=aft_normal (?_)))))))))))))))
  refine c_ (h1:=?_) (h2:=?_)
  rotate_right 1
  focus
   intro c2
   first
   | exact dn c2
   | (
    have d2 := c2;try simp at d2
    refine wc_region (w_ (m_ (h:=w_ (a_ (h:=wo_nil (e_ (h:=?_)))))))
    )
  rotate_right 1
  focus
   intro c2
   first
   | exact dn c2
   | (
    have d2 := c2;try simp at d2
    refine wc_region (w_ (m_ (h:=w_ (?_))))
    refine b_ (hv:=iv_add (c:=(i + j) / 2 + 1) (by simp) (by omega)) (h:=?_)
    refine w_ (a_ (h:=wo_nil (e_ (h:=?_))))
    )
  all_goals refine blk_normal ?_
  )
 all_goals first
 | (refine (ih (((i + j) / 2 + 1,j)) (⟨by simp only;omega,by simp only;omega⟩) ?_ _ ?_).trans ?_;(focus (first | omega | (simp;done) | (simp;omega)));(focus (simp [normE,tnat];done));(focus (rw [hlf_t (i:=i) (j:=j) (by omega) (by simp [ltC];omega)])))
 | (refine (ih ((i,(i + j) / 2)) (⟨by simp only;omega,by simp only;omega⟩) ?_ _ ?_).trans ?_;(focus (first | omega | (simp;done) | (simp;omega)));(focus (simp [normE,tnat];done));(focus (rw [hlf_f (i:=i) (j:=j) (by omega) (by simp [ltC];omega)])))
 | (apply end_leaf (ex:=(Ext.exit 0)) 5 (some [0,1,10]);(focus (simp [normE];rfl));(focus (rw [hlf_0 (i:=i) (j:=j) (by omega)])))
theorem l_s15 (m N : Nat) (r : List Ct) (hN : N < 2000000) (hr : r.length = N) (hm : m < N) : ∀ x : Nat × Nat,(x.1 ≤ x.2 ∧ x.2 ≤ N) → ∀ s,normE 5 (some [0,2,4,14,15]) s = ⟨[(0,.ref 0 0 N),(2,.int .i64 m),(4,.clo 202 []),(14,.int .i64 x.1),(15,.int .i64 x.2)],[(0,⟨false,true,3,cts r,0⟩)],5⟩ →
 oc.loop 251 15 s = some (.exit 4,⟨[(0,.ref 0 0 N),(2,.int .i64 m),(14,.int .i64 (hlf (fun h => !ltC (nth r m) (nth r h)) x.1 x.2 : Nat))],[(0,⟨false,true,3,cts r,0⟩)],5⟩) := by
 refine loop_ind (σ:=Nat × Nat) (fun x => x.2 - x.1) _ (fun x => ⟨[(0,.ref 0 0 N),(2,.int .i64 m),(4,.clo 202 []),(14,.int .i64 x.1),(15,.int .i64 x.2)],[(0,⟨false,true,3,cts r,0⟩)],5⟩) _ ?_
 rintro ⟨i,j⟩ hi ih s hs
 simp only at hi
 refine loop_s cd251 rfl rfl hs ?_
 obtain ⟨hi1,hi2⟩ := hi
 refine wa_ (wa_ (wc_region (w_ (m_ (h:=w_ (m_ (h:=w_ (b_ (h:=wo_nil (e_ (h:=aft_normal (?_))))))))))))
 refine c_ (h1:=?_) (h2:=?_)
 rotate_right 1
 focus
  intro c1
  first
  | exact dn c1
  | (
   have d1 := c1;try simp at d1
   refine wc_exit (?_)
   )
 rotate_right 1
 focus
  intro c1
  first
  | exact dn c1
  | (
   have d1 := c1;try simp at d1
   have g1 : (cts r)[(i + j) / 2]? = some (nth r ((i + j) / 2)).v := cts_nth (by omega);have g2 : (cts r)[m]? = some (nth r m).v := cts_nth (by omega)
   refine wc_skip (?_)
   )
 all_goals first
 | refine aft_exit ?_
 | (
  refine aft_normal ?_
  refine wc_block (wa_ (wc_region (w_ (m_ (h:=w_ (m_ (h:=w_ (?_))))))))
  refine b_ (hv:=iv_add (c:=i + j) (by simp) (by omega)) (h:=?_)
  refine w_ (?_)
  refine cvN (c:=i + j) (hc:=u64_nat (by omega)) (h:=?_)
  refine w_ (?_)
  refine sh (hv:=shr1) (h:=?_)
  refine w_ (?_)
  refine cvN (c:=(i + j) / 2) (hc:=wrap_nat (by omega)) (h:=?_)
  refine w_ (a_ (h:=wo_nil (e_ (h:=aft_normal (wa_ (wc_draw (y_ (m_ (h:=ax_ (h:=y_ (m_ (h:=ax_ (h:=y_ (m_ (h:=ax_ (h:=y_ (x_ (h:=ax_ (h:=y_ (l_ (h:=ax_ (h:=y_ (m_ (h:=ax_ (h:=y_ (m_ (h:=ax_ (h:=?_))))))))))))))))))))))))))))
  refine y_ (x_ (h:=ax_ (h:=y_ (l_ (h:=ax_ (h:=y_ (ca (hc:=e_byC (nth r m) (nth r ((i + j) / 2))) (h:=ax_ (h:=y_ (b_ (h:=ax_ (h:=y_ (u_ (h:=ax_ (h:=wo_nil (ed (h:=aft_normal (?_))))))))))))))))))
  refine c_ (h1:=?_) (h2:=?_)
  rotate_right 1
  focus
   intro c2
   first
   | exact dn c2
   | (
    have d2 := c2;try simp at d2
    refine wc_region (w_ (m_ (h:=w_ (a_ (h:=wo_nil (e_ (h:=?_)))))))
    )
  rotate_right 1
  focus
   intro c2
   first
   | exact dn c2
   | (
    have d2 := c2;try simp at d2
    refine wc_region (w_ (m_ (h:=w_ (?_))))
    refine b_ (hv:=iv_add (c:=(i + j) / 2 + 1) (by simp) (by omega)) (h:=?_)
    refine w_ (a_ (h:=wo_nil (e_ (h:=?_))))
    )
  all_goals refine blk_normal ?_
  )
 all_goals first
 | (refine (ih (((i + j) / 2 + 1,j)) (⟨by simp only;omega,by simp only;omega⟩) ?_ _ ?_).trans ?_;(focus (first | omega | (simp;done) | (simp;omega)));(focus (simp [normE,tnat];done));(focus (rw [hlf_t (i:=i) (j:=j) (by omega) (by simp [ltC];omega)])))
 | (refine (ih ((i,(i + j) / 2)) (⟨by simp only;omega,by simp only;omega⟩) ?_ _ ?_).trans ?_;(focus (first | omega | (simp;done) | (simp;omega)));(focus (simp [normE,tnat];done));(focus (rw [hlf_f (i:=i) (j:=j) (by omega) (by simp [ltC];omega)])))
 | (apply end_leaf (ex:=(Ext.exit 4)) 5 (some [0,2,14]);(focus (simp [normE];rfl));(focus (rw [hlf_0 (i:=i) (j:=j) (by omega)])))
theorem l_s9 (i N : Nat) (hN : N < 2000000) (hi1 : 1 ≤ i) (hiN : i ≤ N) : ∀ x : Nat × (List Ct),(x.1 ≤ i - 1 ∧ x.2.length = N) → ∀ s,normE 5 (some [0,10,13]) s = ⟨[(0,.ref 0 0 N),(10,.int .i64 i),(13,.int .i64 x.1)],[(0,⟨false,true,3,cts x.2,0⟩)],5⟩ →
 oc.loop 251 9 s = some (.exit 2,⟨[],[(0,⟨false,true,3,cts (mvU (i - 1 - x.1) x.1 x.2),0⟩)],5⟩) := by
 refine loop_ind (σ:=Nat × (List Ct)) (fun x => i - 1 - x.1) _ (fun x => ⟨[(0,.ref 0 0 N),(10,.int .i64 i),(13,.int .i64 x.1)],[(0,⟨false,true,3,cts x.2,0⟩)],5⟩) _ ?_
 rintro ⟨k,r⟩ hi ih s hs
 simp only at hi
 refine loop_s cd251 rfl rfl hs ?_
 obtain ⟨hk1,hk2⟩ := hi
 refine wa_ (wa_ (wc_region (w_ (m_ (h:=w_ (m_ (h:=w_ (?_))))))))
 refine b_ (hv:=iv_sub (c:=i - 1) (by omega) (by omega)) (h:=?_)
 refine w_ (b_ (h:=wo_nil (e_ (h:=aft_normal (?_)))))
 refine c_ (h1:=?_) (h2:=?_)
 rotate_right 1
 focus
  intro c1
  first
  | exact dn c1
  | (
   have d1 := c1;try simp at d1
   have hki : ¬ k < i - 1 := (by simp at c1;omega)
   refine wc_exit (?_)
   )
 rotate_right 1
 focus
  intro c1
  first
  | exact dn c1
  | (
   have d1 := c1;try simp at d1
   have hki : k < i - 1 := (by simp at c1;omega);have g1 : (cts r)[k]? = some (nth r k).v := cts_nth (by omega);have g2 : (cts r)[k + 1]? = some (nth r (k + 1)).v := cts_nth (by omega);have g3 : (cts (r.set k (nth r (k + 1))))[k + 1]? = some (nth (r.set k (nth r (k + 1))) (k + 1)).v := cts_nth (by simp;omega)
   refine wc_skip (?_)
   )
 all_goals first
 | refine aft_exit ?_
 | (
  refine aft_normal ?_
  refine wa_ (wc_block (wc_draw (y_ (m_ (h:=ax_ (h:=y_ (m_ (h:=ax_ (h:=y_ (m_ (h:=ax_ (h:=y_ (m_ (h:=ax_ (h:=y_ (?_))))))))))))))))
  refine b_ (hv:=iv_add (c:=k + 1) (by simp) (by omega)) (h:=?_)
  refine ax_ (h:=y_ (m_ (h:=ax_ (h:=y_ (m_ (h:=ax_ (h:=y_ (?_))))))))
  refine b_ (hv:=iv_add (c:=k + 1) (by simp) (by omega)) (h:=?_)
  refine ax_ (h:=y_ (x_ (h:=ax_ (h:=y_ (l_ (h:=ax_ (h:=y_ (m_ (h:=ax_ (h:=y_ (m_ (h:=ax_ (h:=y_ (x_ (h:=ax_ (h:=y_ (l_ (h:=ax_ (h:=y_ (x_ (h:=ax_ (h:=y0 (s_ (h:=ax_ (h:=y_ (x_ (h:=ax_ (h:=y0 (s_ (h:=ax_ (h:=wo_nil (ed (h:=?_)))))))))))))))))))))))))))))))))
  refine blk_normal (aft_normal (wc_region (w_ (m_ (h:=w_ (?_))))))
  refine b_ (hv:=iv_add (c:=k + 1) (by simp) (by omega)) (h:=?_)
  refine w_ (a_ (h:=wo_nil (e_ (h:=?_))))
  )
 all_goals first
 | (refine (ih ((k + 1,swp r k (k + 1))) (⟨by simp only;omega,by simp;omega⟩) ?_ _ ?_).trans ?_;(focus (first | omega | (simp;done) | (simp;omega)));(focus (simp [normE,cts_setS,swp,tnat];done));(focus (rw [show i - 1 - k = (i - 1 - (k + 1)) + 1 by omega];rfl)))
 | (apply end_leaf (ex:=(Ext.exit 2)) 5 (some []);(focus (simp [normE];rfl));(focus (rw [show i - 1 - k = 0 by omega];rfl)))
theorem l_s21 (i N : Nat) (hN : N < 2000000) : ∀ x : Nat × (List Ct),(i ≤ x.1 ∧ x.1 < N ∧ x.2.length = N) → ∀ s,normE 5 (some [0,14,17]) s = ⟨[(0,.ref 0 0 N),(14,.int .i64 i),(17,.int .i64 x.1)],[(0,⟨false,true,3,cts x.2,0⟩)],5⟩ →
 oc.loop 251 21 s = some (.exit 6,⟨[],[(0,⟨false,true,3,cts (mvD (x.1 - i) x.1 x.2),0⟩)],5⟩) := by
 refine loop_ind (σ:=Nat × (List Ct)) (fun x => x.1 - i) _ (fun x => ⟨[(0,.ref 0 0 N),(14,.int .i64 i),(17,.int .i64 x.1)],[(0,⟨false,true,3,cts x.2,0⟩)],5⟩) _ ?_
 rintro ⟨k,r⟩ hi ih s hs
 simp only at hi
 refine loop_s cd251 rfl rfl hs ?_
 obtain ⟨hk1,hk2,hk3⟩ := hi
 refine wa_ (wa_ (wc_region (w_ (m_ (h:=w_ (m_ (h:=w_ (b_ (h:=wo_nil (e_ (h:=aft_normal (?_))))))))))))
 refine c_ (h1:=?_) (h2:=?_)
 rotate_right 1
 focus
  intro c1
  first
  | exact dn c1
  | (
   have d1 := c1;try simp at d1
   have hki : ¬ i < k := (by simp at c1;omega)
   refine wc_exit (?_)
   )
 rotate_right 1
 focus
  intro c1
  first
  | exact dn c1
  | (
   have d1 := c1;try simp at d1
   have hki : i < k := (by simp at c1;omega);have g1 : (cts r)[k]? = some (nth r k).v := cts_nth (by omega);have g2 : (cts r)[k - 1]? = some (nth r (k - 1)).v := cts_nth (by omega);have g3 : (cts (r.set k (nth r (k - 1))))[k - 1]? = some (nth (r.set k (nth r (k - 1))) (k - 1)).v := cts_nth (by simp;omega)
   refine wc_skip (?_)
   )
 all_goals first
 | refine aft_exit ?_
 | (
  refine aft_normal ?_
  refine wa_ (wc_block (wc_draw (y_ (m_ (h:=ax_ (h:=y_ (m_ (h:=ax_ (h:=y_ (m_ (h:=ax_ (h:=y_ (m_ (h:=ax_ (h:=y_ (?_))))))))))))))))
  refine b_ (hv:=iv_sub (c:=k - 1) (by omega) (by omega)) (h:=?_)
  refine ax_ (h:=y_ (m_ (h:=ax_ (h:=y_ (m_ (h:=ax_ (h:=y_ (?_))))))))
  refine b_ (hv:=iv_sub (c:=k - 1) (by omega) (by omega)) (h:=?_)
  refine ax_ (h:=y_ (x_ (h:=ax_ (h:=y_ (l_ (h:=ax_ (h:=y_ (m_ (h:=ax_ (h:=y_ (m_ (h:=ax_ (h:=y_ (x_ (h:=ax_ (h:=y_ (l_ (h:=ax_ (h:=y_ (x_ (h:=ax_ (h:=y0 (s_ (h:=ax_ (h:=y_ (x_ (h:=ax_ (h:=y0 (s_ (h:=ax_ (h:=wo_nil (ed (h:=?_)))))))))))))))))))))))))))))))))
  refine blk_normal (aft_normal (wc_region (w_ (m_ (h:=w_ (?_))))))
  refine b_ (hv:=iv_sub (c:=k - 1) (by omega) (by omega)) (h:=?_)
  refine w_ (a_ (h:=wo_nil (e_ (h:=?_))))
  )
 all_goals first
 | (refine (ih ((k - 1,swp r k (k - 1))) (⟨by simp only;omega,by simp only;omega,by simp;omega⟩) ?_ _ ?_).trans ?_;(focus (first | omega | (simp;done) | (simp;omega)));(focus (simp [normE,cts_setS,swp,tnat];done));(focus (rw [show k - i = (k - 1 - i) + 1 by omega];rfl)))
 | (apply end_leaf (ex:=(Ext.exit 6)) 5 (some []);(focus (simp [normE];rfl));(focus (rw [show k - i = 0 by omega];rfl)))
theorem l_s33 (a m b mid lo hi0 N : Nat) (r : List Ct) (hN : N < 2000000) (hr : r.length = N) (h1 : hi0 ≤ N) (h2 : hi0 ≤ mid + m) (h3 : mid + m ≤ N + lo) (h4 : m ≤ N) (h5 : mid ≤ N) : ∀ x : Nat × Nat,(lo ≤ x.1 ∧ x.1 ≤ x.2 ∧ x.2 ≤ hi0) → ∀ s,normE 5 (some [0,1,2,3,4,18,19,20,21,22]) s = ⟨[(0,.ref 0 0 N),(1,.int .i64 a),(2,.int .i64 m),(3,.int .i64 b),(4,.clo 202 []),(18,.int .i64 mid),(19,.int .i64 (mid + m : Nat)),(20,.int .i64 x.1),(21,.int .i64 x.2),(22,.int .i64 (mid + m - 1 : Nat))],[(0,⟨false,true,3,cts r,0⟩)],5⟩ →
 oc.loop 251 33 s = some (.exit 8,⟨[(0,.ref 0 0 N),(1,.int .i64 a),(2,.int .i64 m),(3,.int .i64 b),(4,.clo 202 []),(18,.int .i64 mid),(19,.int .i64 (mid + m : Nat)),(20,.int .i64 (hlf (fun c => !ltC (nth r (mid + m - 1 - c)) (nth r c)) x.1 x.2 : Nat))],[(0,⟨false,true,3,cts r,0⟩)],5⟩) := by
 refine loop_ind (σ:=Nat × Nat) (fun x => x.2 - x.1) _ (fun x => ⟨[(0,.ref 0 0 N),(1,.int .i64 a),(2,.int .i64 m),(3,.int .i64 b),(4,.clo 202 []),(18,.int .i64 mid),(19,.int .i64 (mid + m : Nat)),(20,.int .i64 x.1),(21,.int .i64 x.2),(22,.int .i64 (mid + m - 1 : Nat))],[(0,⟨false,true,3,cts r,0⟩)],5⟩) _ ?_
 rintro ⟨i,j⟩ hi ih s hs
 simp only at hi
 refine loop_s cd251 rfl rfl hs ?_
 obtain ⟨hi1,hi2,hi3⟩ := hi
 refine wa_ (wa_ (wc_region (w_ (m_ (h:=w_ (m_ (h:=w_ (b_ (h:=wo_nil (e_ (h:=aft_normal (?_))))))))))))
 refine c_ (h1:=?_) (h2:=?_)
 rotate_right 1
 focus
  intro c1
  first
  | exact dn c1
  | (
   have d1 := c1;try simp at d1
   refine wc_exit (?_)
   )
 rotate_right 1
 focus
  intro c1
  first
  | exact dn c1
  | (
   have d1 := c1;try simp at d1
   have hc1 : mid + m - 1 - (i + j) / 2 < r.length := (by omega);have g1 : (cts r)[(i + j) / 2]? = some (nth r ((i + j) / 2)).v := cts_nth (by omega);have g2 : (cts r)[mid + m - 1 - (i + j) / 2]? = some (nth r (mid + m - 1 - (i + j) / 2)).v := cts_nth hc1
   refine wc_skip (?_)
   )
 all_goals first
 | refine aft_exit ?_
 | (
  refine aft_normal ?_
  refine wc_block (wa_ (wc_region (w_ (m_ (h:=w_ (m_ (h:=w_ (?_))))))))
  refine b_ (hv:=iv_add (c:=i + j) (by simp) (by omega)) (h:=?_)
  refine w_ (?_)
  refine cvN (c:=i + j) (hc:=u64_nat (by omega)) (h:=?_)
  refine w_ (?_)
  refine sh (hv:=shr1) (h:=?_)
  refine w_ (?_)
  refine cvN (c:=(i + j) / 2) (hc:=wrap_nat (by omega)) (h:=?_)
  refine w_ (a_ (h:=wo_nil (e_ (h:=aft_normal (wa_ (wc_draw (y_ (m_ (h:=ax_ (h:=y_ (m_ (h:=ax_ (h:=y_ (m_ (h:=ax_ (h:=y_ (m_ (h:=ax_ (h:=y_ (?_))))))))))))))))))))
  refine b_ (hv:=iv_sub (c:=mid + m - 1 - (i + j) / 2) (by omega) (by omega)) (h:=?_)
  refine ax_ (h:=y_ (x_ (h:=ax_ (h:=y_ (l_ (h:=ax_ (h:=y_ (m_ (h:=ax_ (h:=y_ (m_ (h:=ax_ (h:=y_ (x_ (h:=ax_ (h:=y_ (l_ (h:=ax_ (h:=y_ (ca (hc:=e_byC (nth r (mid + m - 1 - (i + j) / 2)) (nth r ((i + j) / 2))) (h:=ax_ (h:=y_ (b_ (h:=ax_ (h:=y_ (u_ (h:=ax_ (h:=wo_nil (ed (h:=aft_normal (?_)))))))))))))))))))))))))))))))
  refine c_ (h1:=?_) (h2:=?_)
  rotate_right 1
  focus
   intro c2
   first
   | exact dn c2
   | (
    have d2 := c2;try simp at d2
    refine wc_region (w_ (m_ (h:=w_ (a_ (h:=wo_nil (e_ (h:=?_)))))))
    )
  rotate_right 1
  focus
   intro c2
   first
   | exact dn c2
   | (
    have d2 := c2;try simp at d2
    refine wc_region (w_ (m_ (h:=w_ (?_))))
    refine b_ (hv:=iv_add (c:=(i + j) / 2 + 1) (by simp) (by omega)) (h:=?_)
    refine w_ (a_ (h:=wo_nil (e_ (h:=?_))))
    )
  all_goals refine blk_normal ?_
  )
 all_goals first
 | (refine (ih (((i + j) / 2 + 1,j)) (⟨by simp only;omega,by simp only;omega,by simp only;omega⟩) ?_ _ ?_).trans ?_;(focus (first | omega | (simp;done) | (simp;omega)));(focus (simp [normE,tnat];done));(focus (rw [hlf_t (i:=i) (j:=j) (by omega) (by simp [ltC];omega)])))
 | (refine (ih ((i,(i + j) / 2)) (⟨by simp only;omega,by simp only;omega,by simp only;omega⟩) ?_ _ ?_).trans ?_;(focus (first | omega | (simp;done) | (simp;omega)));(focus (simp [normE,tnat];done));(focus (rw [hlf_f (i:=i) (j:=j) (by omega) (by simp [ltC];omega)])))
 | (apply end_leaf (ex:=(Ext.exit 8)) 5 (some [0,1,2,3,4,18,19,20]);(focus (simp [normE];rfl));(focus (rw [hlf_0 (i:=i) (j:=j) (by omega)];simp)))
theorem symS_a {lt : Ct → Ct → Bool} {a m b : Nat} {l : List Ct} (h : (a + b) / 2 < m) : symS lt a m b l = hlf (fun c => !lt (nth l ((a + b) / 2 + m - 1 - c)) (nth l c)) ((a + b) / 2 + m - b) ((a + b) / 2) := by
  unfold symS;rw [if_pos h]
theorem symS_b {lt : Ct → Ct → Bool} {a m b : Nat} {l : List Ct} (h : ¬ (a + b) / 2 < m) : symS lt a m b l = hlf (fun c => !lt (nth l ((a + b) / 2 + m - 1 - c)) (nth l c)) a m := by
  unfold symS;rw [if_neg h]
theorem symS_in {lt : Ct → Ct → Bool} {a m b : Nat} {l : List Ct} (h1 : a < m) (h2 : m < b) : symS lt a m b l ≤ m ∧ symS lt a m b l ≤ (a + b) / 2 ∧ a ≤ symS lt a m b l ∧ (a + b) / 2 + m - symS lt a m b l ≤ b := by
  by_cases h : (a + b) / 2 < m
  · rw [symS_a h]
    have := hlf_ok (p:=fun c => !lt (nth l ((a + b) / 2 + m - 1 - c)) (nth l c)) ((a + b) / 2 + m - b) ((a + b) / 2) (by omega)
    omega
  · rw [symS_b h]
    have := hlf_ok (p:=fun c => !lt (nth l ((a + b) / 2 + m - 1 - c)) (nth l c)) a m (by omega)
    omega
theorem l_sym (a m b N : Nat) (r : List Ct) (hN : N < 2000000) (hr : r.length = N) (h1 : a < m) (h2 : m < b) (hb : b ≤ N) (i j : Nat) (h : (a + b) / 2 < m ∧ i = (a + b) / 2 + m - b ∧ j = (a + b) / 2 ∨ ¬ (a + b) / 2 < m ∧ i = a ∧ j = m) : ∀ s,normE 5 (some [0,1,2,3,4,18,19,20,21,22]) s = ⟨[(0,.ref 0 0 N),(1,.int .i64 a),(2,.int .i64 m),(3,.int .i64 b),(4,.clo 202 []),(18,.int .i64 ((a + b) / 2 : Nat)),(19,.int .i64 ((a + b) / 2 + m : Nat)),(20,.int .i64 i),(21,.int .i64 j),(22,.int .i64 ((a + b) / 2 + m - 1 : Nat))],[(0,⟨false,true,3,cts r,0⟩)],5⟩ →
    oc.loop 251 33 s = some (.exit 8,⟨[(0,.ref 0 0 N),(1,.int .i64 a),(2,.int .i64 m),(3,.int .i64 b),(4,.clo 202 []),(18,.int .i64 ((a + b) / 2 : Nat)),(19,.int .i64 ((a + b) / 2 + m : Nat)),(20,.int .i64 (symS ltC a m b r : Nat))],[(0,⟨false,true,3,cts r,0⟩)],5⟩) := by
  rcases h with ⟨h,rfl,rfl⟩ | ⟨h,rfl,rfl⟩
  · rw [symS_a h]
    exact l_s33 a m b ((a + b) / 2) ((a + b) / 2 + m - b) ((a + b) / 2) N r hN hr (by omega) (by omega) (by omega) (by omega) (by omega) (_,_) ⟨Nat.le_refl _,by simp only;omega,Nat.le_refl _⟩
  · rw [symS_b h]
    exact l_s33 i j b ((i + b) / 2) i j N r hN hr (by omega) (by omega) (by omega) (by omega) (by omega) (_,_) ⟨Nat.le_refl _,by simp only;omega,Nat.le_refl _⟩
theorem symM_len {lt : Ct → Ct → Bool} : ∀ (f a m b : Nat) (l : List Ct),a < m → m < b → b ≤ l.length → (symM lt f a m b l).length = l.length
  | 0,a,m,b,l,h1,h2,hb => rfl
  | f + 1,a,m,b,l,h1,h2,hb => by
    unfold symM
    split
    · obtain ⟨q1,q2,_⟩ := hlf_ok (p:=fun h => lt (nth l h) (nth l a)) m b (by omega)
      exact (mvU_ok (by omega)).1.len
    · split
      · obtain ⟨q1,q2,_⟩ := hlf_ok (p:=fun h => !lt (nth l m) (nth l h)) a m (by omega)
        exact (mvD_ok (by omega) (by omega)).1.len
      · obtain ⟨r1,r2,r3,r4⟩ := symS_in (lt:=lt) (l:=l) h1 h2
        simp only
        generalize symS lt a m b l = s at *
        have hl1 := (cutR_nth (s:=s) (m:=m) (mid:=(a + b) / 2) (l:=l) r2 r1 (by omega)).1.length_eq
        generalize cutR s m ((a + b) / 2) l = l1 at *
        have hl2 : (if a < s ∧ s < (a + b) / 2 then symM lt f a s ((a + b) / 2) l1 else l1).length = l.length := by
          split
          · rename_i h
            exact (symM_len f a s ((a + b) / 2) l1 h.1 h.2 (by omega)).trans hl1
          · exact hl1
        generalize (if a < s ∧ s < (a + b) / 2 then symM lt f a s ((a + b) / 2) l1 else l1) = l2 at *
        split
        · rename_i h
          exact (symM_len f _ _ b l2 h.1 h.2 (by omega)).trans hl2
        · exact hl2
theorem symM_1 {lt : Ct → Ct → Bool} {f a m b : Nat} {l : List Ct} (h : m - a = 1) : symM lt (f + 1) a m b l = mvU (hlf (fun h => lt (nth l h) (nth l a)) m b - 1 - a) a l := by
  conv => lhs;unfold symM
  rw [if_pos h]
theorem symM_2 {lt : Ct → Ct → Bool} {f a m b : Nat} {l : List Ct} (h1 : ¬ m - a = 1) (h : b - m = 1) : symM lt (f + 1) a m b l = mvD (m - hlf (fun h => !lt (nth l m) (nth l h)) a m) m l := by
  conv => lhs;unfold symM
  rw [if_neg h1,if_pos h]
theorem e_symM : ∀ (f a m b : Nat) (l : List Ct),b - a ≤ f → a < m → m < b → b ≤ l.length → l.length < 2000000 → oc.call 251 [.iol 3 (cts l),.int .i64 a,.int .i64 m,.int .i64 b,.clo 202 []] = some (.tup [],[.lst true 3 (cts (symM ltC f a m b l))]) := by
  intro f
  induction f with
  | zero => intro a m b l h0 h1 h2 h3 h4;omega
  | succ f ih =>
    intro a m b l h0 h1 h2 h3 h4
    obtain ⟨r1,r2,r3,r4⟩ := symS_in (lt:=ltC) (l:=l) h1 h2
    refine fun_s rfl cd251 rfl rfl rfl (by simp;rfl) (by simp;rfl) ?_
    refine wa_ (wa_ (wc_region (w_ (m_ (h:=w_ (m_ (h:=w_ (?_))))))))
    refine b_ (hv:=iv_sub (c:=m - a) (by omega) (by omega)) (h:=?_)
    refine w_ (bE (h:=wo_nil (e_ (h:=aft_normal (?_)))))
    refine c_ (h1:=?_) (h2:=?_)
    rotate_right 1
    focus
     intro c1
     first
     | exact dn c1
     | (have d1 := c1;try simp at d1
        have e1 : ¬ m - a = 1 := (by simp at c1;omega)
        refine wc_skip (?_)
        )
    rotate_right 1
    focus
     intro c1
     first
     | exact dn c1
     | (have d1 := c1;try simp at d1
        have e1 : m - a = 1 := (by simp at c1;omega);obtain ⟨q1,q2,_⟩ := hlf_ok (p:=fun h => ltC (nth l h) (nth l a)) m b (by omega)
        refine wa_ (wc_region (w_ (m_ (h:=w_ (a_ (h:=wo_nil (e_ (h:=aft_normal (wa_ (wc_region (w_ (m_ (h:=w_ (a_ (h:=wo_nil (e_ (h:=aft_normal (?_))))))))))))))))))
        refine wa_ (wc_block (?_))
        refine wc_loop (l_s3 a l.length l h4 rfl (by omega) (m,b) ⟨by simp only;omega,by simp only;omega⟩ _ (by simp [normE])) ?_
        refine blk_exit (aft_normal (wa_ (wa_ (wc_region (w_ (m_ (h:=w_ (a_ (h:=wo_nil (e_ (h:=aft_normal (wc_block (?_)))))))))))))
        refine wc_loop (l_s9 (hlf (fun h => ltC (nth l h) (nth l a)) m b) l.length h4 (by omega) (by omega) (a,l) ⟨by simp only;omega,rfl⟩ _ (by simp [normE])) ?_
        refine blk_exit (aft_normal (wc_ret (?_)))
        )
    all_goals first
    | refine aft_ret ?_
    | (refine aft_normal ?_
       refine wa_ (wa_ (wc_region (w_ (m_ (h:=w_ (m_ (h:=w_ (?_))))))))
       refine b_ (hv:=iv_sub (c:=b - m) (by omega) (by omega)) (h:=?_)
       refine w_ (bE (h:=wo_nil (e_ (h:=aft_normal (?_)))))
       refine c_ (h1:=?_) (h2:=?_)
       rotate_right 1
       focus
        intro c2
        first
        | exact dn c2
        | (have d2 := c2;try simp at d2
           have e2 : ¬ b - m = 1 := (by simp at c2;omega)
           refine wc_skip (?_)
           )
       rotate_right 1
       focus
        intro c2
        first
        | exact dn c2
        | (have d2 := c2;try simp at d2
           have e2 : b - m = 1 := (by simp at c2;omega);obtain ⟨q1,q2,_⟩ := hlf_ok (p:=fun h => !ltC (nth l m) (nth l h)) a m (by omega)
           refine wa_ (wc_region (w_ (m_ (h:=w_ (a_ (h:=wo_nil (e_ (h:=aft_normal (wa_ (wc_region (w_ (m_ (h:=w_ (a_ (h:=wo_nil (e_ (h:=aft_normal (?_))))))))))))))))))
           refine wa_ (wc_block (?_))
           refine wc_loop (l_s15 m l.length l h4 rfl (by omega) (a,m) ⟨by simp only;omega,by simp only;omega⟩ _ (by simp [normE])) ?_
           refine blk_exit (aft_normal (wa_ (wa_ (wc_region (w_ (m_ (h:=w_ (a_ (h:=wo_nil (e_ (h:=aft_normal (wc_block (?_)))))))))))))
           refine wc_loop (l_s21 (hlf (fun h => !ltC (nth l m) (nth l h)) a m) l.length h4 (m,l) ⟨by simp only;omega,by simp only;omega,rfl⟩ _ (by simp [normE])) ?_
           refine blk_exit (aft_normal (wc_ret (?_)))
           )
       all_goals first
       | refine aft_ret ?_
       | (refine aft_normal ?_
          refine wa_ (wc_region (w_ (m_ (h:=w_ (m_ (h:=w_ (?_)))))))
          refine b_ (hv:=iv_add (c:=a + b) (by simp) (by omega)) (h:=?_)
          refine w_ (?_)
          refine cvN (c:=a + b) (hc:=u64_nat (by omega)) (h:=?_)
          refine w_ (?_)
          refine sh (hv:=shr1) (h:=?_)
          refine w_ (?_)
          refine cvN (c:=(a + b) / 2) (hc:=wrap_nat (by omega)) (h:=?_)
          refine w_ (a_ (h:=wo_nil (e_ (h:=aft_normal (wa_ (wc_region (w_ (m_ (h:=w_ (m_ (h:=w_ (?_))))))))))))
          refine b_ (hv:=iv_add (c:=(a + b) / 2 + m) (by simp) (by omega)) (h:=?_)
          refine w_ (a_ (h:=wo_nil (e_ (h:=aft_normal (wa_ (wc_region (w_ (a_ (h:=w_ (a_ (h:=wo_nil (e_ (h:=aft_normal (wa_ (wa_ (wc_region (?_)))))))))))))))))
          refine w_ (m_ (h:=w_ (m_ (h:=w_ (b_ (h:=wo_nil (e_ (h:=aft_normal (?_)))))))))
          refine c_ (h1:=?_) (h2:=?_)
          rotate_right 1
          focus
           intro c3
           first
           | exact dn c3
           | (have d3 := c3;try simp at d3
              have e3 : ¬ (a + b) / 2 < m := (by simp at c3;omega);obtain ⟨i0,j0,hi0,hj0,hd⟩ : ∃ i j : Nat,i = a ∧ j = m ∧ ((a + b) / 2 < m ∧ i = (a + b) / 2 + m - b ∧ j = (a + b) / 2 ∨ ¬ (a + b) / 2 < m ∧ i = a ∧ j = m) := ⟨_,_,rfl,rfl,.inr ⟨e3,rfl,rfl⟩⟩
              refine wa_ (wc_region (w_ (m_ (h:=w_ (a_ (h:=wo_nil (e_ (h:=aft_normal (wc_region (w_ (m_ (h:=w_ (a_ (h:=wo_nil (e_ (h:=?_))))))))))))))))
              )
          rotate_right 1
          focus
           intro c3
           first
           | exact dn c3
           | (have d3 := c3;try simp at d3
              have e3 : (a + b) / 2 < m := (by simp at c3;omega);obtain ⟨i0,j0,hi0,hj0,hd⟩ : ∃ i j : Nat,i = (a + b) / 2 + m - b ∧ j = (a + b) / 2 ∧ ((a + b) / 2 < m ∧ i = (a + b) / 2 + m - b ∧ j = (a + b) / 2 ∨ ¬ (a + b) / 2 < m ∧ i = a ∧ j = m) := ⟨_,_,rfl,rfl,.inl ⟨e3,rfl,rfl⟩⟩
              refine wa_ (wc_region (w_ (m_ (h:=w_ (m_ (h:=w_ (?_)))))))
              refine b_ (hv:=iv_sub (c:=(a + b) / 2 + m - b) (by omega) (by omega)) (h:=?_)
              refine w_ (a_ (h:=wo_nil (e_ (h:=aft_normal (wc_region (w_ (m_ (h:=w_ (a_ (h:=wo_nil (e_ (h:=?_))))))))))))
              )
          all_goals first
          | (refine aft_normal ?_
             refine wa_ (wc_region (w_ (m_ (h:=w_ (?_)))))
             refine b_ (hv:=iv_sub (c:=(a + b) / 2 + m - 1) (by omega) (by omega)) (h:=?_)
             refine w_ (a_ (h:=wo_nil (e_ (h:=aft_normal (wa_ (wc_block (?_)))))))
             refine wc_loop (l_sym a m b l.length l h4 rfl h1 h2 h3 i0 j0 hd _ (by simp [normE,hi0,hj0])) ?_
             refine blk_exit (aft_normal (wa_ (wc_region (w_ (m_ (h:=w_ (m_ (h:=w_ (?_)))))))))
             refine b_ (hv:=iv_sub (c:=(a + b) / 2 + m - symS ltC a m b l) (by omega) (by omega)) (h:=?_)
             refine w_ (a_ (h:=wo_nil (e_ (h:=aft_normal (wa_ (wa_ (wc_region (w_ (m_ (h:=w_ (m_ (h:=w_ (b_ (h:=w_ (m_ (h:=?_))))))))))))))))
             refine gw_ (h1:=?_) (h2:=?_)
             rotate_right 1
             focus
              intro c4
              first
              | exact dn c4
              | (have d4 := c4;try simp at d4
                 refine go_ (h:=go_ (h:=go_ (h:=?_)))
                 )
             rotate_right 1
             focus
              intro c4
              first
              | exact dn c4
              | (have d4 := c4;try simp at d4
                 refine g_ (h:=w_ (m_ (h:=g_ (h:=w_ (m_ (h:=g_ (h:=w_ (b_ (h:=?_)))))))))
                 )
             all_goals
              refine w_ (pk (h:=wo_nil (e_ (h:=?_))))
             all_goals first
             | (refine aft_normal ?_
                refine c_ (h1:=?_) (h2:=?_)
                rotate_right 1
                focus
                 intro c5
                 first
                 | exact dn c5
                 | (have d5 := c5;try simp at d5
                    have e5 : ¬ (symS ltC a m b l < m ∧ m < (a + b) / 2 + m - symS ltC a m b l) := (by first | omega | (simp at c4;omega) | (simp at c5;omega));have hcut : cutR (symS ltC a m b l) m ((a + b) / 2) l = l := (by unfold cutR;rw [if_neg e5])
                    refine wc_skip (?_)
                    )
                rotate_right 1
                focus
                 intro c5
                 first
                 | exact dn c5
                 | (have d5 := c5;try simp at d5
                    have e5 : symS ltC a m b l < m ∧ m < (a + b) / 2 + m - symS ltC a m b l := (by simp at c5;omega);have hlr := (rot_ok (m:=m) (m - symS ltC a m b l) ((a + b) / 2 + m - symS ltC a m b l - m) l (by omega) (by omega)).1.length_eq;have hcut : cutR (symS ltC a m b l) m ((a + b) / 2) l = rot m (m - symS ltC a m b l) ((a + b) / 2 + m - symS ltC a m b l - m) l := (by unfold cutR;rw [if_pos e5])
                    refine wc_region (w_ (m_ (h:=w_ (m_ (h:=w_ (m_ (h:=w_ (m_ (h:=w_ (m_ (h:=w_ (?_))))))))))))
                    refine cI (hc:=e_rot (symS ltC a m b l) m ((a + b) / 2 + m - symS ltC a m b l) l h4 (by omega) (by omega) (by omega)) (hal:=cts_alk hlr.symm) (h:=?_)
                    refine wo_nil (e_ (h:=?_))
                    )
                )
             all_goals first
             | (refine aft_normal ?_
                refine wa_ (wa_ (wc_region (w_ (m_ (h:=w_ (m_ (h:=w_ (b_ (h:=w_ (m_ (h:=?_)))))))))))
                refine gw_ (h1:=?_) (h2:=?_)
                rotate_right 1
                focus
                 intro c6
                 first
                 | exact dn c6
                 | (have d6 := c6;try simp at d6
                    refine go_ (h:=go_ (h:=go_ (h:=?_)))
                    )
                rotate_right 1
                focus
                 intro c6
                 first
                 | exact dn c6
                 | (have d6 := c6;try simp at d6
                    refine g_ (h:=w_ (m_ (h:=g_ (h:=w_ (m_ (h:=g_ (h:=w_ (b_ (h:=?_)))))))))
                    )
                all_goals
                 refine w_ (pk (h:=wo_nil (e_ (h:=?_))))
                all_goals first
                | (refine aft_normal ?_
                   refine c_ (h1:=?_) (h2:=?_)
                   rotate_right 1
                   focus
                    intro c7
                    first
                    | exact dn c7
                    | (have d7 := c7;try simp at d7
                       have e7 : ¬ (a < symS ltC a m b l ∧ symS ltC a m b l < (a + b) / 2) := (by first | omega | (simp at c6;omega) | (simp at c7;omega));have h12 : (if a < symS ltC a m b l ∧ symS ltC a m b l < (a + b) / 2 then symM ltC f a (symS ltC a m b l) ((a + b) / 2) (cutR (symS ltC a m b l) m ((a + b) / 2) l) else cutR (symS ltC a m b l) m ((a + b) / 2) l) = cutR (symS ltC a m b l) m ((a + b) / 2) l := if_neg e7;rw [hcut] at h12
                       refine wc_skip (?_)
                       )
                   rotate_right 1
                   focus
                    intro c7
                    first
                    | exact dn c7
                    | (have d7 := c7;try simp at d7
                       have e7 : a < symS ltC a m b l ∧ symS ltC a m b l < (a + b) / 2 := (by simp at c7;omega);have hls := symM_len (lt:=ltC) f a (symS ltC a m b l) ((a + b) / 2) (cutR (symS ltC a m b l) m ((a + b) / 2) l) e7.1 e7.2 (by rw [hcut];omega);have h12 : (if a < symS ltC a m b l ∧ symS ltC a m b l < (a + b) / 2 then symM ltC f a (symS ltC a m b l) ((a + b) / 2) (cutR (symS ltC a m b l) m ((a + b) / 2) l) else cutR (symS ltC a m b l) m ((a + b) / 2) l) = symM ltC f a (symS ltC a m b l) ((a + b) / 2) (cutR (symS ltC a m b l) m ((a + b) / 2) l) := if_pos e7;rw [hcut] at hls h12
                       refine wc_region (w_ (m_ (h:=w_ (m_ (h:=w_ (m_ (h:=w_ (m_ (h:=w_ (m_ (h:=w_ (?_))))))))))))
                       first | refine cI (hc:=ih a (symS ltC a m b l) ((a + b) / 2) (rot m (m - symS ltC a m b l) ((a + b) / 2 + m - symS ltC a m b l - m) l) (by omega) (by omega) (by omega) (by omega) (by omega)) (hal:=cts_alk (symM_len f a (symS ltC a m b l) ((a + b) / 2) (rot m (m - symS ltC a m b l) ((a + b) / 2 + m - symS ltC a m b l - m) l) (by omega) (by omega) (by omega)).symm) (h:=?_) | refine cI (hc:=ih a (symS ltC a m b l) ((a + b) / 2) l (by omega) (by omega) (by omega) (by omega) (by omega)) (hal:=cts_alk (symM_len f a (symS ltC a m b l) ((a + b) / 2) l (by omega) (by omega) (by omega)).symm) (h:=?_)
                       refine wo_nil (e_ (h:=?_))
                       )
                   )
                all_goals first
                | (refine aft_normal ?_
                   refine wa_ (wc_region (w_ (m_ (h:=w_ (m_ (h:=w_ (b_ (h:=w_ (m_ (h:=?_))))))))))
                   refine gw_ (h1:=?_) (h2:=?_)
                   rotate_right 1
                   focus
                    intro c8
                    first
                    | exact dn c8
                    | (have d8 := c8;try simp at d8
                       refine go_ (h:=go_ (h:=go_ (h:=?_)))
                       )
                   rotate_right 1
                   focus
                    intro c8
                    first
                    | exact dn c8
                    | (have d8 := c8;try simp at d8
                       refine g_ (h:=w_ (m_ (h:=g_ (h:=w_ (m_ (h:=g_ (h:=w_ (b_ (h:=?_)))))))))
                       )
                   all_goals
                    refine w_ (pk (h:=wo_nil (e_ (h:=?_))))
                   all_goals first
                   | (refine aft_normal ?_
                      refine c_ (h1:=?_) (h2:=?_)
                      rotate_right 1
                      focus
                       intro c9
                       first
                       | exact dn c9
                       | (have d9 := c9;try simp at d9
                          have e9 : ¬ ((a + b) / 2 < (a + b) / 2 + m - symS ltC a m b l ∧ (a + b) / 2 + m - symS ltC a m b l < b) := (by first | omega | (simp at c8;omega) | (simp at c9;omega))
                          refine wc_skip (?_)
                          )
                      rotate_right 1
                      focus
                       intro c9
                       first
                       | exact dn c9
                       | (have d9 := c9;try simp at d9
                          have e9 : (a + b) / 2 < (a + b) / 2 + m - symS ltC a m b l ∧ (a + b) / 2 + m - symS ltC a m b l < b := (by simp at c9;omega)
                          refine wc_region (w_ (m_ (h:=w_ (m_ (h:=w_ (m_ (h:=w_ (m_ (h:=w_ (m_ (h:=w_ (?_))))))))))))
                          first | refine cI (hc:=ih ((a + b) / 2) ((a + b) / 2 + m - symS ltC a m b l) b (symM ltC f a (symS ltC a m b l) ((a + b) / 2) (rot m (m - symS ltC a m b l) ((a + b) / 2 + m - symS ltC a m b l - m) l)) (by omega) (by omega) (by omega) (by omega) (by omega)) (hal:=cts_alk (symM_len f ((a + b) / 2) ((a + b) / 2 + m - symS ltC a m b l) b (symM ltC f a (symS ltC a m b l) ((a + b) / 2) (rot m (m - symS ltC a m b l) ((a + b) / 2 + m - symS ltC a m b l - m) l)) (by omega) (by omega) (by omega)).symm) (h:=?_) | refine cI (hc:=ih ((a + b) / 2) ((a + b) / 2 + m - symS ltC a m b l) b (symM ltC f a (symS ltC a m b l) ((a + b) / 2) l) (by omega) (by omega) (by omega) (by omega) (by omega)) (hal:=cts_alk (symM_len f ((a + b) / 2) ((a + b) / 2 + m - symS ltC a m b l) b (symM ltC f a (symS ltC a m b l) ((a + b) / 2) l) (by omega) (by omega) (by omega)).symm) (h:=?_) | refine cI (hc:=ih ((a + b) / 2) ((a + b) / 2 + m - symS ltC a m b l) b (rot m (m - symS ltC a m b l) ((a + b) / 2 + m - symS ltC a m b l - m) l) (by omega) (by omega) (by omega) (by omega) (by omega)) (hal:=cts_alk (symM_len f ((a + b) / 2) ((a + b) / 2 + m - symS ltC a m b l) b (rot m (m - symS ltC a m b l) ((a + b) / 2 + m - symS ltC a m b l - m) l) (by omega) (by omega) (by omega)).symm) (h:=?_) | refine cI (hc:=ih ((a + b) / 2) ((a + b) / 2 + m - symS ltC a m b l) b l (by omega) (by omega) (by omega) (by omega) (by omega)) (hal:=cts_alk (symM_len f ((a + b) / 2) ((a + b) / 2 + m - symS ltC a m b l) b l (by omega) (by omega) (by omega)).symm) (h:=?_)
                          refine wo_nil (e_ (h:=?_))
                          )
                      )
                   )
                )
             )
          )
       )
    all_goals (refine fin_ (hr:=res_nil) (h:=?_);(focus (first | (rw [symM_1 e1];rfl) | (simp [symM_1 e1];done) | (rw [symM_2 e1 e2];rfl) | (simp [symM_2 e1 e2];done) | (simp only [symM,if_neg e1,if_neg e2,hcut];rw [h12];first | (rw [if_pos e9] <;> first | rfl | (simp;done)) | (rw [if_neg e9] <;> first | rfl | (simp;done))))))
end Go.Proofs.Ytgkbmiaimjpbfaa.Ev
namespace Go.Proofs.Ytgkbmiaimjpbfaa.Ev
open Go
set_option maxRecDepth 100000
set_option linter.unusedSimpArgs false
set_option linter.unusedVariables false
set_option maxHeartbeats 2000000
theorem cmpI_neg {a b : Int} : cmpI a b < 0 ↔ a < b := by
  unfold cmpI
  by_cases h1 : a < b
  · simp [h1]
  · by_cases h2 : b < a <;> simp [h1,h2]
theorem cmpI_nil {a b : Int} : cmpI a b = 0 ↔ a = b := by
  unfold cmpI
  by_cases h1 : a < b
  · simp [h1];omega
  · by_cases h2 : b < a
    · simp [h1,h2];omega
    · simp [h1,h2];omega
theorem ltC_iff {x y : Ct} : ltC x y = true ↔ x.pl < y.pl ∨ x.pl = y.pl ∧ x.ep < y.ep := by
  simp only [ltC,byC,decide_eq_true_eq]
  split
  · rename_i h;rw [cmpI_nil] at h;simp only [decide_eq_true_eq,cmpI_neg];omega
  · rename_i h;rw [cmpI_nil] at h;simp only [decide_eq_true_eq,cmpI_neg];omega
theorem O_ltC : Ordr ltC := by
  refine ⟨fun {x y} h => ?_,fun {x y z} h1 h2 => ?_⟩
  · rw [ltC_iff] at h
    cases hc : ltC y x
    · rfl
    · rw [ltC_iff] at hc;omega
  · cases hc : ltC z x
    · rfl
    · rw [ltC_iff] at hc
      have n1 : ¬ ltC y x = true := by simp [h1]
      have n2 : ¬ ltC z y = true := by simp [h2]
      rw [ltC_iff] at n1 n2
      omega
theorem blk_t {g : Nat → List Ct → List Ct} {w n f a : Nat} {l : List Ct} (h : a + w ≤ n) (hf : n ≤ f + a) (hw : 1 ≤ w) : blk g w n f a l = blk g w n (f - 1) (a + w) (g a l) := by
  obtain ⟨k,rfl⟩ : ∃ k,f = k + 1 := ⟨f - 1,by omega⟩
  conv => lhs;unfold blk
  rw [if_pos h];rfl
theorem blk_f {g : Nat → List Ct → List Ct} {w n f a : Nat} {l : List Ct} (h : ¬ a + w ≤ n) : blk g w n f a l = (a,l) := by
  cases f with
  | zero => rfl
  | succ k => unfold blk;rw [if_neg h]
theorem blk_len {g : Nat → List Ct → List Ct} {w n : Nat} (hw : 1 ≤ w) (hg : ∀ a l,a + w ≤ n → l.length = n → (g a l).length = n) : ∀ (f a : Nat) (l : List Ct),n ≤ f + a → a ≤ n → l.length = n → (blk g w n f a l).1 ≤ n ∧ n < (blk g w n f a l).1 + w ∧ (blk g w n f a l).2.length = n
  | 0,a,l,h1,h2,h3 => ⟨h2,by show n < a + w;omega,h3⟩
  | f + 1,a,l,h1,h2,h3 => by
    unfold blk
    split
    · rename_i h
      exact blk_len hw hg f (a + w) _ (by omega) h (hg a l h h3)
    · rename_i h
      exact ⟨h2,by show n < a + w;omega,h3⟩
abbrev gI : Nat → List Ct → List Ct := fun a l => ins ltC a (a + 20) l
abbrev gM (w : Nat) : Nat → List Ct → List Ct := fun a l => symM ltC (2 * w) a (a + w) (a + 2 * w) l
theorem l_st2 (N : Nat) (hN : N < 2000000) : ∀ x : Nat × Nat × (List Ct),(N ≤ x.1 + x.2.1 ∧ x.2.1 ≤ N ∧ x.2.2.length = N) → ∀ s,normE 3 (some [0,1,2,6,7,8]) s = ⟨[(0,.ref 0 0 N),(1,.int .i64 N),(2,.clo 202 []),(6,.int .i64 20),(7,.int .i64 x.2.1),(8,.int .i64 (x.2.1 + 20 : Nat))],[(0,⟨false,true,3,cts x.2.2,0⟩)],3⟩ →
 oc.loop 232 2 s = some (.exit 0,⟨[(0,.ref 0 0 N),(1,.int .i64 N),(2,.clo 202 []),(6,.int .i64 20),(7,.int .i64 ((blk gI 20 N x.1 x.2.1 x.2.2).1 : Nat))],[(0,⟨false,true,3,cts (blk gI 20 N x.1 x.2.1 x.2.2).2,0⟩)],3⟩) := by
 refine loop_ind (σ:=Nat × Nat × (List Ct)) (fun x => x.1) _ (fun x => ⟨[(0,.ref 0 0 N),(1,.int .i64 N),(2,.clo 202 []),(6,.int .i64 20),(7,.int .i64 x.2.1),(8,.int .i64 (x.2.1 + 20 : Nat))],[(0,⟨false,true,3,cts x.2.2,0⟩)],3⟩) _ ?_
 rintro ⟨f,a,r⟩ hi ih s hs
 simp only at hi
 refine loop_s cd232 rfl rfl hs ?_
 obtain ⟨hi1,hi2,hi3⟩ := hi
 refine wa_ (wa_ (wc_region (w_ (m_ (h:=w_ (m_ (h:=w_ (b_ (h:=wo_nil (e_ (h:=aft_normal (?_))))))))))))
 refine c_ (h1:=?_) (h2:=?_)
 rotate_right 1
 focus
  intro c1
  first
  | exact dn c1
  | (
   have d1 := c1;try simp at d1
   have hab : ¬ a + 20 ≤ N := (by simp at c1;omega)
   refine wc_exit (?_)
   )
 rotate_right 1
 focus
  intro c1
  first
  | exact dn c1
  | (
   have d1 := c1;try simp at d1
   have hab : a + 20 ≤ N := (by simp at c1;omega);have hil := (ins_ok O_ltC (a:=a) (b:=a + 20) (l:=r) (by omega)).1.len
   refine wc_skip (?_)
   )
 all_goals first
 | refine aft_exit ?_
 | (
  refine aft_normal ?_
  refine wc_block (wa_ (wc_region (w_ (m_ (h:=w_ (m_ (h:=w_ (m_ (h:=w_ (m_ (h:=w_ (?_))))))))))))
  refine cI (hc:=e_insC a (a + 20) r (by omega) (by omega) (by omega)) (hal:=cts_alk hil.symm) (h:=?_)
  refine wo_nil (e_ (h:=aft_normal (wa_ (wc_region (w_ (m_ (h:=w_ (a_ (h:=wo_nil (e_ (h:=aft_normal (wc_region (w_ (m_ (h:=w_ (m_ (h:=w_ (?_))))))))))))))))))
  refine b_ (hv:=iv_add (c:=a + 20 + 20) (by simp) (by omega)) (h:=?_)
  refine w_ (a_ (h:=wo_nil (e_ (h:=blk_normal (?_)))))
  )
 all_goals first
 | (refine (ih ((f - 1,a + 20,ins ltC a (a + 20) r)) (⟨by simp only;omega,by simp only;omega,by simp only;omega⟩) ?_ _ ?_).trans ?_;(focus (first | omega | (simp;done) | (simp;omega)));(focus (simp [normE,tnat];done));(focus (rw [blk_t (f:=f) (a:=a) (l:=r) hab hi1 (by omega)])))
 | (apply end_leaf (ex:=(Ext.exit 0)) 3 (some [0,1,2,6,7]);(focus (simp [normE];rfl));(focus (rw [blk_f hab])))
theorem l_st9 (w N : Nat) (hN : N < 2000000) (hw : 1 ≤ w) (hw2 : w < 4000100) : ∀ x : Nat × Nat × (List Ct),(N ≤ x.1 + x.2.1 ∧ x.2.1 ≤ N ∧ x.2.2.length = N) → ∀ s,normE 3 (some [0,1,2,6,7,8]) s = ⟨[(0,.ref 0 0 N),(1,.int .i64 N),(2,.clo 202 []),(6,.int .i64 w),(7,.int .i64 x.2.1),(8,.int .i64 (x.2.1 + 2 * w : Nat))],[(0,⟨false,true,3,cts x.2.2,0⟩)],3⟩ →
 oc.loop 232 9 s = some (.exit 4,⟨[(0,.ref 0 0 N),(1,.int .i64 N),(2,.clo 202 []),(6,.int .i64 w),(7,.int .i64 ((blk (gM w) (2 * w) N x.1 x.2.1 x.2.2).1 : Nat))],[(0,⟨false,true,3,cts (blk (gM w) (2 * w) N x.1 x.2.1 x.2.2).2,0⟩)],3⟩) := by
 refine loop_ind (σ:=Nat × Nat × (List Ct)) (fun x => x.1) _ (fun x => ⟨[(0,.ref 0 0 N),(1,.int .i64 N),(2,.clo 202 []),(6,.int .i64 w),(7,.int .i64 x.2.1),(8,.int .i64 (x.2.1 + 2 * w : Nat))],[(0,⟨false,true,3,cts x.2.2,0⟩)],3⟩) _ ?_
 rintro ⟨f,a,r⟩ hi ih s hs
 simp only at hi
 refine loop_s cd232 rfl rfl hs ?_
 obtain ⟨hi1,hi2,hi3⟩ := hi
 refine wa_ (wa_ (wc_region (w_ (m_ (h:=w_ (m_ (h:=w_ (b_ (h:=wo_nil (e_ (h:=aft_normal (?_))))))))))))
 refine c_ (h1:=?_) (h2:=?_)
 rotate_right 1
 focus
  intro c1
  first
  | exact dn c1
  | (
   have d1 := c1;try simp at d1
   have hab : ¬ a + 2 * w ≤ N := (by simp at c1;omega)
   refine wc_exit (?_)
   )
 rotate_right 1
 focus
  intro c1
  first
  | exact dn c1
  | (
   have d1 := c1;try simp at d1
   have hab : a + 2 * w ≤ N := (by simp at c1;omega);have hil := symM_len (lt:=ltC) (2 * w) a (a + w) (a + 2 * w) r (by omega) (by omega) (by omega)
   refine wc_skip (?_)
   )
 all_goals first
 | refine aft_exit ?_
 | (
  refine aft_normal ?_
  refine wc_block (wa_ (wc_region (w_ (m_ (h:=w_ (m_ (h:=w_ (m_ (h:=w_ (m_ (h:=w_ (?_))))))))))))
  refine b_ (hv:=iv_add (c:=a + w) (by simp) (by omega)) (h:=?_)
  refine w_ (m_ (h:=w_ (m_ (h:=w_ (?_)))))
  refine cI (hc:=e_symM (2 * w) a (a + w) (a + 2 * w) r (by omega) (by omega) (by omega) (by omega) (by omega)) (hal:=cts_alk hil.symm) (h:=?_)
  refine wo_nil (e_ (h:=aft_normal (wa_ (wc_region (w_ (m_ (h:=w_ (a_ (h:=wo_nil (e_ (h:=aft_normal (wc_region (w_ (m_ (h:=w_ (m_ (h:=w_ (?_))))))))))))))))))
  refine b_ (hv:=iv_mul (c:=2 * w) (by simp) (by omega)) (h:=?_)
  refine w_ (?_)
  refine b_ (hv:=iv_add (c:=a + 2 * w + 2 * w) (by simp) (by omega)) (h:=?_)
  refine w_ (a_ (h:=wo_nil (e_ (h:=blk_normal (?_)))))
  )
 all_goals first
 | (refine (ih ((f - 1,a + 2 * w,symM ltC (2 * w) a (a + w) (a + 2 * w) r)) (⟨by simp only;omega,by simp only;omega,by simp only;omega⟩) ?_ _ ?_).trans ?_;(focus (first | omega | (simp;done) | (simp;omega)));(focus (simp [normE,tnat];done));(focus (rw [blk_t (f:=f) (a:=a) (l:=r) hab hi1 (by omega)])))
 | (apply end_leaf (ex:=(Ext.exit 4)) 3 (some [0,1,2,6,7]);(focus (simp [normE];rfl));(focus (rw [blk_f hab])))
theorem stb2_t {n f w : Nat} {l : List Ct} (h : w < n) (hf : n ≤ f + w) : stb2 ltC n f w l = stb2 ltC n (f - 1) (2 * w) (mrg ltC w n l) := by
  obtain ⟨k,rfl⟩ : ∃ k,f = k + 1 := ⟨f - 1,by omega⟩
  conv => lhs;unfold stb2
  rw [if_pos h];rfl
theorem stb2_f {n f w : Nat} {l : List Ct} (h : ¬ w < n) : stb2 ltC n f w l = l := by
  cases f with
  | zero => rfl
  | succ k => unfold stb2;rw [if_neg h]
theorem mrg_a {w n : Nat} {l : List Ct} (h : (blk (gM w) (2 * w) n n 0 l).1 + w < n) : mrg ltC w n l = symM ltC (2 * w) (blk (gM w) (2 * w) n n 0 l).1 ((blk (gM w) (2 * w) n n 0 l).1 + w) n (blk (gM w) (2 * w) n n 0 l).2 := by
  unfold mrg;rw [if_pos h]
theorem mrg_b {w n : Nat} {l : List Ct} (h : ¬ (blk (gM w) (2 * w) n n 0 l).1 + w < n) : mrg ltC w n l = (blk (gM w) (2 * w) n n 0 l).2 := by
  unfold mrg;rw [if_neg h]
theorem l_st7 (N : Nat) (hN : N < 2000000) : ∀ x : Nat × Nat × (List Ct),(N ≤ x.1 + x.2.1 ∧ 1 ≤ x.2.1 ∧ x.2.1 < 4000100 ∧ x.2.2.length = N) → ∀ s,normE 3 (some [0,1,2,6]) s = ⟨[(0,.ref 0 0 N),(1,.int .i64 N),(2,.clo 202 []),(6,.int .i64 x.2.1)],[(0,⟨false,true,3,cts x.2.2,0⟩)],3⟩ →
 oc.loop 232 7 s = some (.exit 2,⟨[],[(0,⟨false,true,3,cts (stb2 ltC N x.1 x.2.1 x.2.2),0⟩)],3⟩) := by
 refine loop_ind (σ:=Nat × Nat × (List Ct)) (fun x => x.1) _ (fun x => ⟨[(0,.ref 0 0 N),(1,.int .i64 N),(2,.clo 202 []),(6,.int .i64 x.2.1)],[(0,⟨false,true,3,cts x.2.2,0⟩)],3⟩) _ ?_
 rintro ⟨f,w,r⟩ hi ih s hs
 simp only at hi
 refine loop_s cd232 rfl rfl hs ?_
 obtain ⟨hi1,hi2,hi2',hi3⟩ := hi
 refine wa_ (wa_ (wc_region (w_ (m_ (h:=w_ (m_ (h:=w_ (b_ (h:=wo_nil (e_ (h:=aft_normal (?_))))))))))))
 refine c_ (h1:=?_) (h2:=?_)
 rotate_right 1
 focus
  intro c1
  first
  | exact dn c1
  | (
   have d1 := c1;try simp at d1
   have hab : ¬ w < N := (by simp at c1;omega)
   refine wc_exit (?_)
   )
 rotate_right 1
 focus
  intro c1
  first
  | exact dn c1
  | (
   have d1 := c1;try simp at d1
   have hab : w < N := (by simp at c1;omega);obtain ⟨b1,b2,b3⟩ := blk_len (g:=gM w) (w:=2 * w) (n:=N) (by omega) (fun a l ha hl => (symM_len (lt:=ltC) (2 * w) a (a + w) (a + 2 * w) l (by omega) (by omega) (by omega)).trans hl) N 0 r (by omega) (by omega) hi3
   refine wc_skip (?_)
   )
 all_goals first
 | refine aft_exit ?_
 | (
  refine aft_normal ?_
  refine wc_block (wa_ (wc_region (w_ (m_ (h:=w_ (?_))))))
  refine b_ (hv:=iv_mul (c:=2 * w) (by simp) (by omega)) (h:=?_)
  refine w_ (a_ (h:=w_ (a_ (h:=wo_nil (e_ (h:=aft_normal (wa_ (wc_block (?_)))))))))
  refine wc_loop (l_st9 w N hN hi2 hi2' (N,0,r) ⟨by simp,by simp,hi3⟩ _ (by simp [normE])) ?_
  refine blk_exit (aft_normal (wa_ (wa_ (wc_region (w_ (m_ (h:=w_ (m_ (h:=w_ (?_))))))))))
  refine b_ (hv:=iv_add (c:=(blk (gM w) (2 * w) N N 0 r).1 + w) (by simp) (by omega)) (h:=?_)
  refine w_ (a_ (h:=wo_nil (e_ (h:=aft_normal (wa_ (wc_region (w_ (m_ (h:=w_ (m_ (h:=w_ (b_ (h:=wo_nil (e_ (h:=aft_normal (?_))))))))))))))))
  refine c_ (h1:=?_) (h2:=?_)
  rotate_right 1
  focus
   intro c2
   first
   | exact dn c2
   | (
    have d2 := c2;try simp at d2
    have hcw : ¬ (blk (gM w) (2 * w) N N 0 r).1 + w < N := (by simp at c2;omega);have hml : (mrg ltC w N r).length = N := (by rw [mrg_b hcw];omega)
    refine wc_skip (?_)
    )
  rotate_right 1
  focus
   intro c2
   first
   | exact dn c2
   | (
    have d2 := c2;try simp at d2
    have hcw : (blk (gM w) (2 * w) N N 0 r).1 + w < N := (by simp at c2;omega);have hil := symM_len (lt:=ltC) (2 * w) (blk (gM w) (2 * w) N N 0 r).1 ((blk (gM w) (2 * w) N N 0 r).1 + w) N (blk (gM w) (2 * w) N N 0 r).2 (by omega) (by omega) (by omega);have hml : (mrg ltC w N r).length = N := (by rw [mrg_a hcw];omega)
    refine wc_region (w_ (m_ (h:=w_ (m_ (h:=w_ (m_ (h:=w_ (m_ (h:=w_ (m_ (h:=w_ (?_))))))))))))
    refine cI (hc:=e_symM (2 * w) (blk (gM w) (2 * w) N N 0 r).1 ((blk (gM w) (2 * w) N N 0 r).1 + w) N (blk (gM w) (2 * w) N N 0 r).2 (by omega) (by omega) (by omega) (by omega) (by omega)) (hal:=cts_alk hil.symm) (h:=?_)
    refine wo_nil (e_ (h:=?_))
    )
  all_goals first
  | (
   refine aft_normal ?_
   refine wc_region (w_ (m_ (h:=w_ (?_))))
   refine b_ (hv:=iv_mul (c:=2 * w) (by push_cast;omega) (by omega)) (h:=?_)
   refine w_ (a_ (h:=wo_nil (e_ (h:=?_))))
   )
  all_goals refine blk_normal ?_
  )
 all_goals first
 | (refine (ih ((f - 1,2 * w,mrg ltC w N r)) (⟨by simp only;omega,by simp only;omega,by simp only;omega,by simp only;omega⟩) ?_ _ ?_).trans ?_;(focus (first | omega | (simp;done) | (simp;omega)));(focus (simp [normE,tnat,mrg_a hcw];done));(focus (rw [stb2_t (f:=f) (w:=w) (l:=r) hab hi1])))
 | (refine (ih ((f - 1,2 * w,mrg ltC w N r)) (⟨by simp only;omega,by simp only;omega,by simp only;omega,by simp only;omega⟩) ?_ _ ?_).trans ?_;(focus (first | omega | (simp;done) | (simp;omega)));(focus (simp [normE,tnat,mrg_b hcw];done));(focus (rw [stb2_t (f:=f) (w:=w) (l:=r) hab hi1])))
 | (apply end_leaf (ex:=(Ext.exit 2)) 3 (some []);(focus (simp [normE];rfl));(focus (rw [stb2_f hab])))
theorem e_stbl (l : List Ct) (hN : l.length < 2000000) : oc.call 232 [.iol 3 (cts l),.int .i64 l.length,.clo 202 []] = some (.tup [],[.lst true 3 (cts (stb ltC l))]) := by
 refine fun_s rfl cd232 rfl rfl rfl (by simp;rfl) (by simp;rfl) ?_
 obtain ⟨b1,b2,b3⟩ := blk_len (g:=gI) (w:=20) (n:=l.length) (by omega) (fun a r ha hl => (ins_ok O_ltC (a:=a) (b:=a + 20) (l:=r) (by omega)).1.len.trans hl) l.length 0 l (by omega) (by omega) rfl
 have hil := (ins_ok O_ltC (a:=(blk gI 20 l.length l.length 0 l).1) (b:=l.length) (l:=(blk gI 20 l.length l.length 0 l).2) (by omega)).1.len
 refine wa_ (wc_region (w_ (a_ (h:=wo_nil (e_ (h:=aft_normal (wa_ (wc_region (w_ (m_ (h:=w_ (a_ (h:=w_ (a_ (h:=wo_nil (e_ (h:=aft_normal (?_))))))))))))))))))
 refine wa_ (wc_block (?_))
 refine wc_loop (l_st2 l.length hN (l.length,0,l) ⟨by simp,by simp,rfl⟩ _ (by simp [normE])) ?_
 refine blk_exit (aft_normal (wa_ (wc_region (w_ (m_ (h:=w_ (m_ (h:=w_ (m_ (h:=w_ (m_ (h:=w_ (?_)))))))))))))
 refine cI (hc:=e_insC (blk gI 20 l.length l.length 0 l).1 l.length (blk gI 20 l.length l.length 0 l).2 (by omega) (by omega) (by omega)) (hal:=cts_alk hil.symm) (h:=?_)
 refine wo_nil (e_ (h:=aft_normal (wc_block (?_))))
 refine wc_loop (l_st7 l.length hN (l.length,20,stb1 ltC l.length l) ⟨by simp only;omega,by simp,by simp,hil.trans b3⟩ _ (by simp [normE,stb1])) ?_
 refine blk_exit (?_)
 all_goals (refine fin_ (hr:=res_nil) (h:=?_);(focus (simp [stb])))
theorem e_stab (l : List Ct) (hN : l.length < 2000000) : oc.call 201 [.iol 3 (cts l),.clo 202 []] = some (.tup [],[.lst true 3 (cts (stb ltC l))]) := by
 refine fun_s rfl cd201 rfl rfl rfl (by simp;rfl) (by simp;rfl) ?_
 refine wc_region (w_ (m_ (h:=w_ (m_ (h:=w_ (le (h:=w_ (m_ (h:=w_ (?_))))))))))
 refine cI (hc:=e_stbl l hN) (hal:=cts_alk (stb_ok O_ltC l).1.length_eq.symm) (h:=?_)
 refine wo_nil (e_ (h:=?_))
 all_goals (refine fin_ (hr:=res_nil) (h:=?_);(focus (simp)))
def addN (x c : Ct) : Ct := ⟨x.pl,x.ep,IntKind.i64.wrap (x.n + c.n)⟩
def putC : List Ct → Ct → List Ct
  | [],c => [c]
  | x :: r,c => if ltC x c = true then x :: putC r c else if ltC c x = true then c :: x :: r else addN x c :: r
theorem wrap_ac {x a b : Int} : IntKind.i64.wrap (IntKind.i64.wrap (x + a) + b) = IntKind.i64.wrap (IntKind.i64.wrap (x + b) + a) := by
  unfold IntKind.wrap;simp [IntKind.bits,IntKind.signed];omega
theorem wrap_c {a b : Int} : IntKind.i64.wrap (a + b) = IntKind.i64.wrap (b + a) := by rw [Int.add_comm]
theorem ltC_no {x y : Ct} : ltC x y = false ↔ ¬ (x.pl < y.pl ∨ x.pl = y.pl ∧ x.ep < y.ep) := by
  rw [← ltC_iff];simp
theorem putC_cons (x : Ct) (r : List Ct) (c : Ct) : putC (x :: r) c = if ltC x c = true then x :: putC r c else if ltC c x = true then c :: x :: r else addN x c :: r := rfl
theorem putC_comm : ∀ (l : List Ct) (a b : Ct),putC (putC l a) b = putC (putC l b) a
  | [],a,b => by
    show putC [a] b = putC [b] a
    rw [putC_cons,putC_cons]
    by_cases h1 : ltC a b = true
    · have h2 : ¬ ltC b a = true := by rw [ltC_iff] at h1 ⊢;omega
      rw [if_pos h1,if_neg h2,if_pos h1];rfl
    · by_cases h2 : ltC b a = true
      · rw [if_neg h1,if_pos h2,if_pos h2];rfl
      · rw [if_neg h1,if_neg h2,if_neg h2,if_neg h1]
        rw [ltC_iff] at h1 h2
        have e1 : a.pl = b.pl := by omega
        have e2 : a.ep = b.ep := by omega
        simp [addN,e1,e2,wrap_c]
  | x :: r,a,b => by
    have ih := putC_comm r a b
    have key : ∀ c : Ct,putC (x :: r) c = if ltC x c = true then x :: putC r c else if ltC c x = true then c :: x :: r else addN x c :: r := fun c => rfl
    have kn : ∀ (y : Ct) (q : List Ct) (c : Ct),putC (y :: q) c = if ltC y c = true then y :: putC q c else if ltC c y = true then c :: y :: q else addN y c :: q := fun y q c => rfl
    have hx : ∀ c d : Ct,(ltC (addN x c) d = true ↔ ltC x d = true) ∧ (ltC d (addN x c) = true ↔ ltC d x = true) := fun c d => by
      simp only [ltC_iff,addN,and_self]
    rw [key a,key b]
    by_cases a1 : ltC x a = true
    · rw [if_pos a1]
      by_cases b1 : ltC x b = true
      · rw [if_pos b1,kn,kn,if_pos b1,if_pos a1,ih]
      · rw [if_neg b1]
        by_cases b2 : ltC b x = true
        · have ba : ltC b a = true := by rw [ltC_iff] at *;omega
          rw [if_pos b2,kn,if_neg b1,if_pos b2,kn,if_pos ba,key,if_pos a1]
        · rw [if_neg b2,kn,if_neg b1,if_neg b2,kn,if_pos ((hx b a).1.2 a1)]
    · rw [if_neg a1]
      by_cases a2 : ltC a x = true
      · rw [if_pos a2]
        by_cases b1 : ltC x b = true
        · have ab : ltC a b = true := by rw [ltC_iff] at *;omega
          rw [if_pos b1,kn,if_pos ab,key,if_pos b1,kn,if_neg a1,if_pos a2]
        · rw [if_neg b1]
          by_cases b2 : ltC b x = true
          · rw [if_pos b2,kn a (x :: r) b,kn b (x :: r) a]
            by_cases ab : ltC a b = true
            · have ba : ¬ ltC b a = true := by rw [ltC_iff] at *;omega
              rw [if_pos ab,if_neg ba,if_pos ab,key,if_neg b1,if_pos b2]
            · by_cases ba : ltC b a = true
              · rw [if_neg ab,if_pos ba,if_pos ba,key,if_neg a1,if_pos a2]
              · rw [if_neg ab,if_neg ba,if_neg ba,if_neg ab]
                rw [ltC_iff] at ab ba
                have e1 : a.pl = b.pl := by omega
                have e2 : a.ep = b.ep := by omega
                simp [addN,e1,e2,wrap_c]
          · have ab : ltC a b = true := by rw [ltC_iff] at *;omega
            rw [if_neg b2,kn,if_pos ab,key,if_neg b1,if_neg b2,kn,if_neg (fun h => a1 ((hx b a).1.1 h)),if_pos ((hx b a).2.2 a2)]
      · rw [if_neg a2]
        by_cases b1 : ltC x b = true
        · rw [if_pos b1,kn,if_pos ((hx a b).1.2 b1),kn,if_neg a1,if_neg a2]
        · rw [if_neg b1]
          by_cases b2 : ltC b x = true
          · have ba : ltC b a = true := by rw [ltC_iff] at *;omega
            rw [if_pos b2,kn,if_neg (fun h => b1 ((hx a b).1.1 h)),if_pos ((hx a b).2.2 b2),kn,if_pos ba,key,if_neg a1,if_neg a2]
          · rw [if_neg b2,kn,if_neg (fun h => b1 ((hx a b).1.1 h)),if_neg (fun h => b2 ((hx a b).2.1 h)),kn,if_neg (fun h => a1 ((hx b a).1.1 h)),if_neg (fun h => a2 ((hx b a).2.1 h))]
            simp only [addN,wrap_ac]
theorem put_perm {l1 l2 : List Ct} (p : l1.Perm l2) : ∀ acc : List Ct,l1.foldl putC acc = l2.foldl putC acc := by
  induction p with
  | nil => intro acc;rfl
  | cons x _ ih => intro acc;exact ih _
  | swap x y l => intro acc;simp only [List.foldl_cons];rw [putC_comm]
  | trans _ _ ih1 ih2 => intro acc;rw [ih1,ih2]
theorem putC_last {x c : Ct} (hx : ltC c x = false) : ∀ {init : List Ct},(∀ y ∈ init,ltC y c = true) → putC (init ++ [x]) c = if ltC x c = true then init ++ [x,c] else init ++ [addN x c]
  | [],_ => by
    show putC [x] c = _
    rw [putC_cons]
    by_cases h : ltC x c = true
    · rw [if_pos h,if_pos h];rfl
    · rw [if_neg h,if_neg h,if_neg (by simp [hx])];rfl
  | y :: r,h => by
    rw [List.cons_append,putC_cons,if_pos (h y (List.mem_cons_self ..)),putC_last hx (fun z hz => h z (List.mem_cons_of_mem _ hz))]
    by_cases h : ltC x c = true
    · rw [if_pos h,if_pos h];rfl
    · rw [if_neg h,if_neg h];rfl
theorem runs_inv {S : List Ct} (hS : Srt ltC 0 S.length S) : ∀ i,i < S.length → ∃ init x,(S.take (i + 1)).foldl putC [] = init ++ [x] ∧ x.pl = (nth S i).pl ∧ x.ep = (nth S i).ep ∧ ∀ y ∈ init,ltC y (nth S i) = true
  | 0,h => by
    refine ⟨[],nth S 0,?_,rfl,rfl,fun y hy => by cases hy⟩
    rw [List.take_add_one,nth_get h];rfl
  | i + 1,h => by
    obtain ⟨init,x,e,e1,e2,hy⟩ := runs_inv hS i (by omega)
    have hle := hS i (i + 1) (by omega) (by omega) h
    rw [ltC_no] at hle
    have hxc : ltC (nth S (i + 1)) x = false := by rw [ltC_no];omega
    have hall : ∀ y ∈ init,ltC y (nth S (i + 1)) = true := fun y h1 => by
      have := hy y h1
      rw [ltC_iff] at this ⊢;omega
    rw [List.take_add_one,nth_get h,List.foldl_append,e]
    show ∃ init' x',putC (init ++ [x]) (nth S (i + 1)) = init' ++ [x'] ∧ _
    rw [putC_last hxc hall]
    by_cases hc : ltC x (nth S (i + 1)) = true
    · rw [if_pos hc]
      refine ⟨init ++ [x],nth S (i + 1),by simp,rfl,rfl,fun y h1 => ?_⟩
      rcases List.mem_append.1 h1 with h1 | h1
      · exact hall y h1
      · rw [List.mem_singleton.1 h1];exact hc
    · rw [if_neg hc]
      have hc' := hc
      rw [ltC_iff] at hc'
      rw [ltC_no] at hxc
      exact ⟨init,addN x (nth S (i + 1)),rfl,by show x.pl = _;omega,by show x.ep = _;omega,hall⟩
theorem put_sorted : ∀ (l acc : List Ct),(acc ++ l).Pairwise (fun x y => ltC x y = true) → l.foldl putC acc = acc ++ l
  | [],acc,_ => by simp
  | c :: l,acc,h => by
    have hacc : ∀ y ∈ acc,ltC y c = true := fun y hy => (List.pairwise_append.1 h).2.2 y hy c (List.mem_cons_self ..)
    have hput : putC acc c = acc ++ [c] := by
      clear h
      induction acc with
      | nil => rfl
      | cons y r ih => rw [putC_cons,if_pos (hacc y (List.mem_cons_self ..)),ih (fun z hz => hacc z (List.mem_cons_of_mem _ hz))];rfl
    rw [List.foldl_cons,hput,put_sorted l (acc ++ [c]) (by simpa using h)]
    simp
theorem sum_eq {l m : List Ct} (h : l.Pairwise (fun x y => ltC x y = true)) : m.foldl putC l = (stb ltC (l ++ m)).foldl putC [] := by
  rw [put_perm (stb_ok O_ltC (l ++ m)).1,List.foldl_append,put_sorted l [] (by simpa using h)]
  rfl
end Go.Proofs.Ytgkbmiaimjpbfaa.Ev
namespace Go.Proofs.Ytgkbmiaimjpbfaa.Ev
open Go
set_option maxRecDepth 100000
set_option linter.unusedSimpArgs false
set_option linter.unusedVariables false
set_option maxHeartbeats 2000000
def ctss (t : Bool) (l : List (List Ct)) : List V := l.map fun x => .lst t (lz t 3) (cts x)
@[simp] theorem ctss_len (t : Bool) (l : List (List Ct)) : (ctss t l).length = l.length := by simp [ctss]
@[simp] theorem ctss_nil (t : Bool) : ctss t [] = [] := rfl
@[simp] theorem ctss_cons (t : Bool) (x : List Ct) (l : List (List Ct)) : ctss t (x :: l) = .lst t (lz t 3) (cts x) :: ctss t l := rfl
@[simp] theorem ctss_join (t : Bool) (l m : List (List Ct)) : ctss t l ++ ctss t m = ctss t (l ++ m) := by simp [ctss]
@[simp] theorem ctss_snocT (l : List (List Ct)) (x : List Ct) : ctss true l ++ [.lst true 3 (cts x)] = ctss true (l ++ [x]) := by simp [ctss]
@[simp] theorem ctss_snocF (l : List (List Ct)) (x : List Ct) : ctss false l ++ [.lst false 0 (cts x)] = ctss false (l ++ [x]) := by simp [ctss]
@[simp] theorem ctss_setT (l : List (List Ct)) (i : Nat) (x : List Ct) : (ctss true l).set i (.lst true 3 (cts x)) = ctss true (l.set i x) := by simp [ctss,List.map_set]
@[simp] theorem ctss_setF (l : List (List Ct)) (i : Nat) (x : List Ct) : (ctss false l).set i (.lst false 0 (cts x)) = ctss false (l.set i x) := by simp [ctss,List.map_set]
theorem ctss_get {t : Bool} {l : List (List Ct)} {i : Nat} {x : List Ct} (h : l[i]? = some x) : (ctss t l)[i]? = some (.lst t (lz t 3) (cts x)) := by simp [ctss,h]
theorem ctss_at {t : Bool} {l : List (List Ct)} {i : Nat} (h : i < l.length) : (ctss t l)[(i : Int).toNat]? = some (.lst t (lz t 3) (cts l[i])) := ctss_get (by simp [h])
theorem ctss_cut {t : Bool} {l : List (List Ct)} {i : Nat} (h : i < l.length) : ∃ x,l[i]? = some x ∧ l.drop i = x :: l.drop (i + 1) ∧ (ctss t l)[(i : Int).toNat]? = some (.lst t (lz t 3) (cts x)) :=
  ⟨l[i],by simp [h],List.drop_eq_getElem_cons h,ctss_at h⟩
@[simp] theorem ctss_take (t : Bool) (n : Nat) (l : List (List Ct)) : (ctss t l).take n = ctss t (l.take n) := by simp [ctss,List.map_take]
@[simp] theorem ctss_drop (t : Bool) (n : Nat) (l : List (List Ct)) : (ctss t l).drop n = ctss t (l.drop n) := by simp [ctss,List.map_drop]
@[simp] theorem ctss_shareL (t : Bool) (l : List (List Ct)) : V.shareL (ctss t l) = ctss false l := by
  induction l with
  | nil => rfl
  | cons x l ih => simp [V.shareL,ih,lst_share]
@[simp] theorem ctss_tidyT (l : List (List Ct)) : V.tidyL (ctss true l) = true := by
  induction l with
  | nil => rfl
  | cons x l ih => simp [V.tidyL,V.tidy,ih]
@[simp] theorem alike_ctss (t u : Bool) (a b : List (List Ct)) : V.alikeL (ctss t a) (ctss u b) = decide (a.length = b.length) := alikeL_lss (fun _ _ => rfl)
abbrev ctZ : V := .agg [.int .i64 0,.int .i64 0,.int .i64 0]
theorem grow_posC (e : List (Nat × V)) (o : List (Nat × Ob)) (k : Int) (hk : 0 < k) (hk2 : k < 2000000) : oc.call.i 231 [.emp true,.int .i64 k] ⟨e,o,33⟩ 33 = some (.ref 609 0 0,⟨e,(609,⟨false,false,3,List.replicate k.toNat ctZ,0⟩) :: o,833⟩) := by
 have h0 : IntKind.i64.wrap (0 - 0) = 0 := by decide
 have hw : IntKind.i64.wrap (k - IntKind.i64.wrap (0 - 0)) = k := by rw [h0,Int.sub_zero];exact wrap_id (by omega) (by omega)
 apply inl_s (by rw [cf_pl];rfl) cd231 rfl rfl (by simp;rfl)
 refine wa_ (wc_region (w_ (aN (h:=wo_nil (e_ (h:=aft_normal (wa_ (wa_ (wc_region (w_ (m_ (h:=w_ (b_ (h:=wo_nil (e_ (h:=aft_normal (?_)))))))))))))))))
 refine c_ (h1:=?_) (h2:=?_)
 rotate_right 1
 focus
  intro c1
  first
  | exact dn c1
  | (
   have d1 := c1;try simp at d1
   refine wc_skip (?_)
   )
 rotate_right 1
 focus
  intro c1
  first
  | exact dn c1
  | (
   have d1 := c1;try simp at d1
   exfalso;omega
   )
 all_goals first
 | (
  refine aft_normal ?_
  refine wa_ (wa_ (wc_region (w_ (m_ (h:=w_ (m_ (h:=w_ (cc (h:=w_ (m_ (h:=w_ (le (h:=w_ (b_ (h:=w_ (b_ (h:=w_ (a_ (h:=wo_nil (e_ (h:=?_)))))))))))))))))))))
  refine aft_normal (wa_ (wc_region (w_ (m_ (h:=w_ (b_ (h:=wo_nil (e_ (h:=aft_normal (?_))))))))))
  refine c_ (h1:=?_) (h2:=?_)
  rotate_right 1
  focus
   intro c2
   first
   | exact dn c2
   | (
    have d2 := c2;try simp at d2
    exfalso;rw [hw] at c2;simp at c2;omega
    )
  rotate_right 1
  focus
   intro c2
   first
   | exact dn c2
   | (
    have d2 := c2;try simp at d2
    refine wc_region (w_ (m_ (h:=w_ (m_ (h:=w_ (cc (h:=w_ (sl (h:=w_ (m_ (h:=w_ (?_))))))))))))
    simp only [hw];refine apZ (h:=?_)
    refine w_ (m_ (h:=w_ (le (h:=w_ (sl (h:=w_ (a_ (h:=wo_nil (e_ (h:=?_))))))))))
    )
  all_goals first
  | (
   refine aft_normal ?_
   refine wa_ (wc_region (w_ (m_ (h:=w_ (a_ (h:=wo_nil (e_ (h:=aft_normal (wc_ret (?_))))))))))
   )
  )
 all_goals (exact ⟨by simp,_,rfl,rfl,rfl⟩)
theorem grow_nilC (e : List (Nat × V)) (o : List (Nat × Ob)) : oc.call.i 231 [.emp true,.int .i64 0] ⟨e,o,33⟩ 33 = some (.emp true,⟨e,o,513⟩) := by
 have h0 : IntKind.i64.wrap (0 - 0) = 0 := by decide
 have hw : IntKind.i64.wrap (0 - IntKind.i64.wrap (0 - 0)) = 0 := by rw [h0];decide
 apply inl_s (by rw [cf_pl];rfl) cd231 rfl rfl (by simp;rfl)
 refine wa_ (wc_region (w_ (aN (h:=wo_nil (e_ (h:=aft_normal (wa_ (wa_ (wc_region (w_ (m_ (h:=w_ (b_ (h:=wo_nil (e_ (h:=aft_normal (?_)))))))))))))))))
 refine c_ (h1:=?_) (h2:=?_)
 rotate_right 1
 focus
  intro c1
  first
  | exact dn c1
  | (
   have d1 := c1;try simp at d1
   refine wc_skip (?_)
   )
 rotate_right 1
 focus
  intro c1
  first
  | exact dn c1
  | (
   have d1 := c1;try simp at d1
   exfalso;omega
   )
 all_goals first
 | (
  refine aft_normal ?_
  refine wa_ (wa_ (wc_region (w_ (m_ (h:=w_ (m_ (h:=w_ (cc (h:=w_ (m_ (h:=w_ (le (h:=w_ (b_ (h:=w_ (b_ (h:=w_ (a_ (h:=wo_nil (e_ (h:=?_)))))))))))))))))))))
  refine aft_normal (wa_ (wc_region (w_ (m_ (h:=w_ (b_ (h:=wo_nil (e_ (h:=aft_normal (?_))))))))))
  refine c_ (h1:=?_) (h2:=?_)
  rotate_right 1
  focus
   intro c2
   first
   | exact dn c2
   | (
    have d2 := c2;try simp at d2
    refine wc_skip (?_)
    )
  rotate_right 1
  focus
   intro c2
   first
   | exact dn c2
   | (
    have d2 := c2;try simp at d2
    exfalso;rw [hw] at c2;simp at c2
    )
  all_goals first
  | (
   refine aft_normal ?_
   refine wa_ (wc_region (w_ (m_ (h:=w_ (a_ (h:=wo_nil (e_ (h:=aft_normal (wc_ret (?_))))))))))
   )
  )
 all_goals (exact ⟨by simp,_,rfl,rfl,rfl⟩)
theorem wS_cutLC {α : Type} {f : α → Nat} {l : List α} {i : Nat} {x : α} (h : l[i]? = some x) : wS f (l.take (i + 1)) = wS f (l.take i) + f x := by
  induction l generalizing i with
  | nil => simp at h
  | cons y r ih =>
    cases i with
    | zero => simp at h;subst h;simp
    | succ i => simp at h;simp only [List.take_succ_cons,wS_cons];rw [ih h];omega
theorem wS_takeLC {α : Type} {f : α → Nat} {l : List α} {i : Nat} : wS f (l.take i) ≤ wS f l := by
  induction l generalizing i with
  | nil => simp
  | cons y r ih =>
    cases i with
    | zero => simp
    | succ i => have := ih (i:=i);simp only [List.take_succ_cons,wS_cons];omega
def lenSC (l : List (List Ct)) : Nat := wS List.length l
theorem lenS_cutC {l : List (List Ct)} {i : Nat} {x : List Ct} (h : l[i]? = some x) : lenSC (l.take (i + 1)) = lenSC (l.take i) + x.length := wS_cutLC h
theorem lenS_takeC {l : List (List Ct)} {i : Nat} : lenSC (l.take i) ≤ lenSC l := wS_takeLC
theorem lenS_flatC {l : List (List Ct)} : l.flatten.length = lenSC l := by
  induction l with
  | nil => rfl
  | cons x r ih => simp only [List.flatten_cons,List.length_append,ih,lenSC,wS_cons]
theorem flat_cutC {l : List (List Ct)} {i : Nat} {x : List Ct} (h : l[i]? = some x) : (l.take (i + 1)).flatten = (l.take i).flatten ++ x := by
  rw [List.take_add_one,h];simp
theorem l_catSzC (ls : List (List Ct)) (hl : ls.length < 2000000) (hs0 : lenSC ls < 2000000) : ∀ i : Nat,(i ≤ ls.length) → ∀ s,normE 1 (some [0,3,9,10,11]) s = ⟨[(0,.lst false 0 (ctss false ls)),(3,.int .i64 (lenSC (ls.take i) : Nat)),(9,.lst false 0 (ctss false ls)),(10,.int .i64 ls.length),(11,.int .i64 i)],[],1⟩ →
 oc.loop 200 3 s = some (.exit 0,⟨[(0,.lst false 0 (ctss false ls)),(3,.int .i64 (lenSC ls : Nat))],[],1⟩) := by
 refine loop_ind (σ:=Nat) (fun i => ls.length - i) _ (fun i => ⟨[(0,.lst false 0 (ctss false ls)),(3,.int .i64 (lenSC (ls.take i) : Nat)),(9,.lst false 0 (ctss false ls)),(10,.int .i64 ls.length),(11,.int .i64 i)],[],1⟩) _ ?_
 intro i hi ih s hs
 refine loop_s cd200 rfl rfl hs ?_
 refine wa_ (wc_region (w_ (b_ (h:=wo_nil (e_ (h:=aft_normal (wa_ (?_))))))))
 refine c_ (h1:=?_) (h2:=?_)
 rotate_right 1
 focus
  intro c1
  first
  | exact dn c1
  | (
   have d1 := c1;try simp at d1
   refine wc_exit (?_)
   )
 rotate_right 1
 focus
  intro c1
  first
  | exact dn c1
  | (
   have d1 := c1;try simp at d1
   have hw := wrap_succ (i:=i) (by omega);obtain ⟨c,hx,e1,g1⟩ := ctss_cut (t:=false) (l:=ls) (i:=i) (by omega);have hcut := lenS_cutC hx;have hle := lenS_takeC (l:=ls) (i:=i + 1);have hws : IntKind.i64.wrap ((lenSC (ls.take i) : Nat) + (c.length : Int)) = (lenSC (ls.take (i + 1)) : Nat) := (wrap_id (by omega) (by omega)).trans (by omega)
   refine wc_skip (?_)
   )
 all_goals first
 | refine aft_exit ?_
 | (
  refine aft_normal ?_
  refine wa_ (wc_block (wa_ (wc_region (w_ (x_ (h:=w_ (l_ (h:=w_ (a_ (h:=wo_nil (e_ (h:=aft_normal (wa_ (wc_region (w_ (m_ (h:=?_)))))))))))))))))
  refine w_ (m_ (h:=w_ (le (h:=w_ (b_ (h:=w_ (a_ (h:=wo_nil (e_ (h:=aft_normal (wa_ (wc_region (w_ (m_ (h:=w_ (b_ (h:=wo_nil (e_ (h:=aft_normal (?_))))))))))))))))))))
  refine c_ (h1:=?_) (h2:=?_)
  rotate_right 1
  focus
   intro c2
   first
   | exact dn c2
   | (
    have d2 := c2;try simp at d2
    refine wc_skip (?_)
    )
  rotate_right 1
  focus
   intro c2
   first
   | exact dn c2
   | (
    have d2 := c2;try simp at d2
    exfalso;clear ih hs;omega
    )
  all_goals refine blk_normal ?_
  all_goals first
  | (
   refine aft_normal ?_
   refine wc_region (w_ (b_ (h:=w_ (m_ (h:=wo_nil (e_ (h:=?_)))))))
   )
  )
 all_goals first
 | (refine (ih (i + 1) (by omega) ?_ _ ?_).trans ?_;(focus (first | omega | (simp;done) | (simp;omega)));(focus (simp [normE,hw,hws];done));(focus (rfl)))
 | (apply end_leaf (ex:=(Ext.exit 0)) 1 (some [0,3]);(focus (simp [normE];rfl));(focus (rw [List.take_of_length_le (by omega)])))
theorem l_catC (ls : List (List Ct)) (hl : ls.length < 2000000) (hs0 : lenSC ls < 2000000) : ∀ i : Nat,(i ≤ ls.length) → ∀ s,normE 1 (some [6,25,26,27]) s = ⟨[(6,.ref 1 0 (lenSC (ls.take i))),(25,.lst false 0 (ctss false ls)),(26,.int .i64 ls.length),(27,.int .i64 i)],[(1,⟨false,false,3,cts (ls.take i).flatten,0⟩)],2⟩ →
 oc.loop 200 11 s = some (.exit 2,⟨[(6,.ref 1 0 (lenSC ls))],[(1,⟨false,false,3,cts ls.flatten,0⟩)],2⟩) := by
 refine loop_ind (σ:=Nat) (fun i => ls.length - i) _ (fun i => ⟨[(6,.ref 1 0 (lenSC (ls.take i))),(25,.lst false 0 (ctss false ls)),(26,.int .i64 ls.length),(27,.int .i64 i)],[(1,⟨false,false,3,cts (ls.take i).flatten,0⟩)],2⟩) _ ?_
 intro i hi ih s hs
 refine loop_s cd200 rfl rfl hs ?_
 have hT := lenS_takeC (l:=ls) (i:=i)
 generalize hF : (ls.take i).flatten = F
 have hN : lenSC (ls.take i) = F.length := by rw [← hF];exact lenS_flatC.symm
 rw [hN] at hT ⊢
 refine wa_ (wc_region (w_ (b_ (h:=wo_nil (e_ (h:=aft_normal (wa_ (?_))))))))
 refine c_ (h1:=?_) (h2:=?_)
 rotate_right 1
 focus
  intro c1
  first
  | exact dn c1
  | (
   have d1 := c1;try simp at d1
   refine wc_exit (?_)
   )
 rotate_right 1
 focus
  intro c1
  first
  | exact dn c1
  | (
   have d1 := c1;try simp at d1
   have hw := wrap_succ (i:=i) (by omega);obtain ⟨c,hx,e1,g1⟩ := ctss_cut (t:=false) (l:=ls) (i:=i) (by omega);have hcut := lenS_cutC hx;rw [hN] at hcut;have hle := lenS_takeC (l:=ls) (i:=i + 1);have hfl := flat_cutC hx;rw [hF] at hfl
   refine wc_skip (?_)
   )
 all_goals first
 | refine aft_exit ?_
 | (
  refine aft_normal ?_
  refine wa_ (wc_block (wa_ (wc_region (w_ (x_ (h:=w_ (l_ (h:=w_ (a_ (h:=wo_nil (e_ (h:=aft_normal (wc_region (w_ (m_ (h:=w_ (m_ (h:=?_))))))))))))))))))
  refine w_ (ap (h:=w_ (a_ (h:=wo_nil (e_ (h:=blk_normal (aft_normal (wc_region (w_ (b_ (h:=w_ (m_ (h:=wo_nil (e_ (h:=?_)))))))))))))))
  )
 all_goals first
 | (refine (ih (i + 1) (by omega) ?_ _ ?_).trans ?_;(focus (first | omega | (simp;done) | (simp;omega)));(focus (simp [normE,hw,hcut,hfl];done));(focus (rfl)))
 | (apply end_leaf (ex:=(Ext.exit 2)) 1 (some [6]);(focus (simp [normE];rfl));(focus (rw [List.take_of_length_le (by omega)] at hF hN;subst hF;simp [hN])))
theorem cat_nilC (ls : List (List Ct)) (hl : ls.length < 2000000) (hs0 : lenSC ls < 2000000) (hne : 0 < ls.length) (L : List Ct) (hL : ls.flatten = L) : ∀ s,normE 1 (some [6,25,26,27]) s = ⟨[(6,.emp true),(25,.lst false 0 (ctss false ls)),(26,.int .i64 ls.length),(27,.int .i64 0)],[],1⟩ → oc.loop 200 11 s = some (.exit 2,⟨[(6,.ref 1 0 L.length)],[(1,⟨false,false,3,cts L,0⟩)],2⟩) := by
 intro s hs
 obtain ⟨c,hx,e1,g1⟩ := ctss_cut (t:=false) (l:=ls) (i:=0) hne
 change (ctss false ls)[(0 : Int).toNat]? = _ at g1
 have hcut := lenS_cutC hx
 have hfl := flat_cutC hx
 have hle := lenS_takeC (l:=ls) (i:=0 + 1)
 have hw : IntKind.i64.wrap (0 + 1) = 1 := by decide
 have hw1 : IntKind.i64.wrap 1 = 1 := by decide
 have hcl : c.length < 2000000 := by omega
 simp [lenSC] at hcut hfl
 refine loop_s cd200 rfl rfl hs ?_
 refine wa_ (wc_region (w_ (b_ (h:=wo_nil (e_ (h:=aft_normal (wa_ (?_))))))))
 refine c_ (h1:=?_) (h2:=?_)
 rotate_right 1
 focus
  intro c1
  first
  | exact dn c1
  | (
   have d1 := c1;try simp at d1
   exfalso;rw [decide_eq_false_iff_not] at c1;omega
   )
 rotate_right 1
 focus
  intro c1
  first
  | exact dn c1
  | (
   have d1 := c1;try simp at d1
   refine wc_skip (?_)
   )
 all_goals first
 | refine aft_exit ?_
 | (
  refine aft_normal ?_
  refine wa_ (wc_block (wa_ (wc_region (w_ (x_ (h:=w_ (l_ (h:=w_ (a_ (h:=wo_nil (e_ (h:=aft_normal (wc_region (w_ (m_ (h:=w_ (m_ (h:=?_))))))))))))))))))
  refine w_ (ap (h:=w_ (a_ (h:=wo_nil (e_ (h:=blk_normal (aft_normal (wc_region (w_ (b_ (h:=w_ (m_ (h:=wo_nil (e_ (h:=?_)))))))))))))))
  )
 all_goals (refine (l_catC ls hl hs0 1 (by omega) _ ?_).trans (by rw [← lenS_flatC,hL]);(simp [normE,hw,hw1,lenSC,hcut,hfl];done))
theorem cat_posC (ls : List (List Ct)) (k : Nat) (hl : ls.length < 2000000) (hs0 : lenSC ls < 2000000) (hne : 0 < ls.length) (L : List Ct) (hL : ls.flatten = L) : ∀ s,normE 1 (some [6,25,26,27]) s = ⟨[(6,.ref 1 0 0),(25,.lst false 0 (ctss false ls)),(26,.int .i64 ls.length),(27,.int .i64 0)],[(1,⟨false,false,3,List.replicate k ctZ,0⟩)],2⟩ → oc.loop 200 11 s = some (.exit 2,⟨[(6,.ref 1 0 L.length)],[(1,⟨false,false,3,cts L,0⟩)],2⟩) := by
 intro s hs
 obtain ⟨c,hx,e1,g1⟩ := ctss_cut (t:=false) (l:=ls) (i:=0) hne
 change (ctss false ls)[(0 : Int).toNat]? = _ at g1
 have hcut := lenS_cutC hx
 have hfl := flat_cutC hx
 have hle := lenS_takeC (l:=ls) (i:=0 + 1)
 have hw : IntKind.i64.wrap (0 + 1) = 1 := by decide
 have hw1 : IntKind.i64.wrap 1 = 1 := by decide
 have hcl : c.length < 2000000 := by omega
 simp [lenSC] at hcut hfl
 refine loop_s cd200 rfl rfl hs ?_
 refine wa_ (wc_region (w_ (b_ (h:=wo_nil (e_ (h:=aft_normal (wa_ (?_))))))))
 refine c_ (h1:=?_) (h2:=?_)
 rotate_right 1
 focus
  intro c1
  first
  | exact dn c1
  | (
   have d1 := c1;try simp at d1
   exfalso;rw [decide_eq_false_iff_not] at c1;omega
   )
 rotate_right 1
 focus
  intro c1
  first
  | exact dn c1
  | (
   have d1 := c1;try simp at d1
   refine wc_skip (?_)
   )
 all_goals first
 | refine aft_exit ?_
 | (
  refine aft_normal ?_
  refine wa_ (wc_block (wa_ (wc_region (w_ (x_ (h:=w_ (l_ (h:=w_ (a_ (h:=wo_nil (e_ (h:=aft_normal (wc_region (w_ (m_ (h:=w_ (m_ (h:=?_))))))))))))))))))
  refine w_ (ap (h:=w_ (a_ (h:=wo_nil (e_ (h:=blk_normal (aft_normal (wc_region (w_ (b_ (h:=w_ (m_ (h:=wo_nil (e_ (h:=?_)))))))))))))))
  )
 all_goals (refine (l_catC ls hl hs0 1 (by omega) _ ?_).trans (by rw [← lenS_flatC,hL]);(simp [normE,hw,hw1,lenSC,hcut,hfl];done))
theorem e_catC (ls : List (List Ct)) (hl : ls.length < 2000000) (hs0 : lenSC ls < 2000000) (hne : 0 < ls.length) : oc.call 200 [.lst false 0 (ctss false ls)] = some (.lst true 3 (cts ls.flatten),[]) := by
  obtain ⟨L,hL⟩ : ∃ L,ls.flatten = L := ⟨_,rfl⟩
  rw [hL]
  rcases Nat.eq_zero_or_pos (lenSC ls) with hz | hz
  · refine fun_s rfl cd200 rfl rfl rfl (by simp;rfl) (by simp;rfl) ?_
    refine wa_ (wc_region (w_ (aN (h:=wo_nil (e_ (h:=aft_normal (wa_ (wc_region (w_ (a_ (h:=wo_nil (e_ (h:=aft_normal (wa_ (wa_ (?_))))))))))))))))
    refine wc_region (w_ (m_ (h:=w_ (le (h:=w_ (m_ (h:=wo_nil (e_ (h:=aft_normal (wc_block (?_)))))))))))
    refine wc_loop (l_catSzC ls hl hs0 0 (by omega) _ (by simp [normE,lenSC])) ?_
    refine blk_exit (aft_normal (wa_ (wc_region (w_ (m_ (h:=?_))))))
    first | refine i_ (hc:=(by simp only [hz];exact grow_nilC _ _)) (h:=?_)
    refine w_ (a_ (h:=wo_nil (e_ (h:=aft_normal (wa_ (wa_ (wc_region (w_ (m_ (h:=w_ (le (h:=w_ (m_ (h:=wo_nil (e_ (h:=aft_normal (wc_block (?_))))))))))))))))))
    refine wc_loop (cat_nilC ls hl hs0 hne L hL _ (by simp [normE])) ?_
    refine blk_exit (aft_normal (wa_ (wc_region (w_ (m_ (h:=w_ (a_ (h:=wo_nil (e_ (h:=aft_normal (wc_ret (?_))))))))))))
    all_goals (refine fin_ (hr:=(res_tmp rfl res_nil)) (h:=?_);(focus (simp)))
  · refine fun_s rfl cd200 rfl rfl rfl (by simp;rfl) (by simp;rfl) ?_
    refine wa_ (wc_region (w_ (aN (h:=wo_nil (e_ (h:=aft_normal (wa_ (wc_region (w_ (a_ (h:=wo_nil (e_ (h:=aft_normal (wa_ (wa_ (?_))))))))))))))))
    refine wc_region (w_ (m_ (h:=w_ (le (h:=w_ (m_ (h:=wo_nil (e_ (h:=aft_normal (wc_block (?_)))))))))))
    refine wc_loop (l_catSzC ls hl hs0 0 (by omega) _ (by simp [normE,lenSC])) ?_
    refine blk_exit (aft_normal (wa_ (wc_region (w_ (m_ (h:=?_))))))
    first | refine i_ (hc:=grow_posC _ _ (lenSC ls : Nat) (by omega) (by omega)) (h:=?_)
    refine w_ (a_ (h:=wo_nil (e_ (h:=aft_normal (wa_ (wa_ (wc_region (w_ (m_ (h:=w_ (le (h:=w_ (m_ (h:=wo_nil (e_ (h:=aft_normal (wc_block (?_))))))))))))))))))
    refine wc_loop (cat_posC ls (lenSC ls) hl hs0 hne L hL _ (by simp [normE])) ?_
    refine blk_exit (aft_normal (wa_ (wc_region (w_ (m_ (h:=w_ (a_ (h:=wo_nil (e_ (h:=aft_normal (wc_ret (?_))))))))))))
    all_goals (refine fin_ (hr:=(res_tmp rfl res_nil)) (h:=?_);(focus (simp)))
section
variable {id base : Nat} {e : List (Nat × V)} {o : List (Nat × Ob)} {n : Nat} {t : TypeId} {K : V → List (Nat × Ob) → Prop}
theorem caT {args : Array Operand} {ts : Array TypeId} {fo : Operand} {f g : FuncId} {q m sz : Nat} {ys : List V} {ob : Ob} {o1 : List (Nat × Ob)} {id' : Nat} (hx : opsV e args.toList = some [.ref q 0 m,.clo g []] := by exact rfl) (hf : opV e fo = some (.clo f []) := by exact rfl) (hB : cf.inB f = false := by (rw [cf_in];rfl)) (hmd : cf.md f = [.take] := by (rw [cf_md];rfl)) (ho : geta o q = some ob := by exact rfl) (hb : ob.bx = false := by rfl) (hfx : ob.fx = false := by rfl) (hm : m = ob.xs.length := by first | rfl | simp) (hd : dela o q = o1 := by (simp;rfl))
    (hc : oc.call f [.lst true ob.sz ob.xs,.clo g []] = some (.lst true sz ys,[])) (hid : id = id' := by ((try simp);rfl)) (h : K (.ref id' 0 ys.length) ((id',⟨false,false,sz,ys,0⟩) :: o1)) : opK oc.call cf id base e o n t (.call ⟨.value fo,args,ts⟩) K := by
  subst hd hm hid
  refine ⟨_,_,?_,h⟩
  have hg : St.give ⟨e,o,n⟩ q 0 ob.xs.length = some (ob.sz,ob.xs,⟨e,dela o q,n⟩) := by
    simp only [St.give,ho,hb,hfx,Nat.zero_add,Nat.le_refl,and_self,if_true,List.drop_zero,List.take_length]
  have hz : V.fz (.ref q 0 ob.xs.length) ⟨e,o,n⟩ = some (.lst true ob.sz ob.xs,⟨e,dela o q,n⟩) := by
    simp only [V.fz,hg,mp_some]
  have hs : V.snapA ⟨e,dela o q,n⟩ (.clo g []) = some (.clo g []) := rfl
  simp only [opE,hx,hf,V.capsOk,if_true,hB,Bool.false_eq_true,if_false,List.append_nil,callV,hmd,lendV,lendOne,List.headD_cons,List.tail_cons,List.headD_nil,List.tail_nil,hz,V.argOk,V.isTup,snapsV,hs,mp_some,hc,plainM,V.mention,V.mentionL,List.isEmpty_nil,true_or,V.thaw,true_and,backs,List.nil_append,List.singleton_append]
  rw [if_pos (by omega)]
end
end Go.Proofs.Ytgkbmiaimjpbfaa.Ev
namespace Go.Proofs.Ytgkbmiaimjpbfaa.Ev
open Go
set_option maxRecDepth 100000
set_option linter.unusedSimpArgs false
set_option linter.unusedVariables false
set_option maxHeartbeats 2000000
theorem cts_getC {l : List Ct} {i : Nat} {x : Ct} (h : l[i]? = some x) : (cts l)[i]? = some x.v := by simp [cts,h]
def idxUC (p : Ct → Bool) (i : Nat) : List (Ct) → Int
  | [] => -1
  | x :: r => if p x = true then i else idxUC p (i + 1) r
theorem idxU_anyC {p : Ct → Bool} : ∀ {l : List (Ct)} {i : Nat},decide (0 ≤ idxUC p i l) = l.any p
  | [],i => by simp [idxUC]
  | x :: r,i => by
    unfold idxUC
    by_cases h : p x = true
    · simp [h]
    · simp only [if_neg h,List.any_cons,idxU_anyC (l:=r) (i:=i + 1)];simp [h]
theorem l_ix_UnionsC (l : List (Ct))  (p : Ct → Bool) (hl : l.length < 2000000) (hc : ∀ x ∈ l,oc.call 204 [x.v] = some (.bool (p x),[])) : ∀ i : Nat,i ≤ l.length → ∀ s,normE 2 (some [0,1,7,8]) s = ⟨[(0,.lst false 0 (cts l)),(1,.clo 204 []),(7,.int .i64 l.length),(8,.int .i64 i)],[],2⟩ →
 oc.loop 234 2 s = some (if 0 ≤ idxUC p i (l.drop i) then (.ret,⟨[(4,.int .i64 (idxUC p i (l.drop i)))],[],2⟩) else (.exit 0,⟨[],[],2⟩)) := by
 refine loop_ind (fun i => l.length - i) _ (fun i => ⟨[(0,.lst false 0 (cts l)),(1,.clo 204 []),(7,.int .i64 l.length),(8,.int .i64 i)],[],2⟩) _ ?_
 intro i hi ih s hs
 refine loop_s cd234 rfl rfl hs ?_
 refine wa_ (wc_region (w_ (b_ (h:=wo_nil (e_ (h:=aft_normal (wa_ (?_))))))))
 refine c_ (h1:=?_) (h2:=?_)
 rotate_right 1
 focus
  intro c1
  first
  | exact dn c1
  | (
   have d1 := c1;try simp at d1
   refine wc_exit (?_)
   )
 rotate_right 1
 focus
  intro c1
  first
  | exact dn c1
  | (
   have d1 := c1;try simp at d1
   have hw := wrap_succ (i:=i) (by omega);obtain ⟨x,hx,e1,g1⟩ := cts_cut (l:=l) (i:=i) (by omega);have hq := hc x (List.mem_of_getElem? hx)
   refine wc_skip (?_)
   )
 all_goals first
 | refine aft_exit ?_
 | (
  refine aft_normal ?_
  refine wa_ (wc_block (wa_ (wc_region (w_ (m_ (h:=w_ (a_ (h:=wo_nil (e_ (h:=aft_normal (wa_ (wc_region (w_ (m_ (h:=w_ (m_ (h:=?_)))))))))))))))))
  refine w_ (m_ (h:=w_ (x_ (h:=w_ (l_ (h:=w_ (?_)))))))
  refine k_callS rfl rfl (by rw [cf_in];rfl) rfl (by rw [cf_md];rfl) (by simp [cf_md,mdT];rfl) (by first | rfl | simp [*]) hq rfl (by simp;rfl) (by simp [cf_md,mdT]) (by simp;rfl) (by simp;rfl) ?_
  refine wo_nil (e_ (h:=aft_normal (?_)))
  refine c_ (h1:=?_) (h2:=?_)
  rotate_right 1
  focus
   intro c2
   first
   | exact dn c2
   | (
    have d2 := c2;try simp at d2
    refine wc_skip (?_)
    )
  rotate_right 1
  focus
   intro c2
   first
   | exact dn c2
   | (
    have d2 := c2;try simp at d2
    refine wa_ (wc_region (w_ (m_ (h:=w_ (a_ (h:=wo_nil (e_ (h:=aft_normal (wc_ret (?_))))))))))
    )
  all_goals first | refine blk_normal ?_ | refine blk_ret ?_
  all_goals first
  | refine aft_ret ?_
  | (
   refine aft_normal ?_
   refine wc_region (w_ (b_ (h:=w_ (m_ (h:=wo_nil (e_ (h:=?_)))))))
   )
  )
 all_goals first
 | (refine (ih (i + 1) (by omega) ?_ _ ?_).trans ?_;(focus (first | omega | (simp;done) | (simp;omega)));(focus (simp [normE,hw];done));(focus (rw [e1];simp only [idxUC,if_neg (show ¬ p x = true by simp [d2])])))
 | (apply end_leaf (ex:=Ext.ret) 2 (some [4]);(focus (simp [normE];rfl));(focus (rw [e1];simp [idxUC,d2])))
 | (apply end_leaf (ex:=(Ext.exit 0)) 2 (some [4]);(focus (simp [normE];rfl));(focus (rw [List.drop_eq_nil_of_le (by omega)];simp [idxUC])))
theorem e_ix_UnionsC (l : List (Ct))  (p : Ct → Bool) (hl : l.length < 2000000) (hc : ∀ x ∈ l,oc.call 204 [x.v] = some (.bool (p x),[])) : oc.call 234 [.lst false 0 (cts l),.clo 204 []] = some (.int .i64 (if 0 ≤ idxUC p 0 l then idxUC p 0 l else -1),[]) := by
 refine fun_s rfl cd234 rfl rfl rfl (by simp;rfl) (by simp;rfl) ?_
 refine wa_ (wc_region (w_ (a_ (h:=wo_nil (e_ (h:=aft_normal (wa_ (wa_ (wc_region (w_ (m_ (h:=w_ (le (h:=w_ (m_ (h:=wo_nil (e_ (h:=?_))))))))))))))))))
 refine aft_normal (wc_block (?_))
 refine wc_loopI (l_ix_UnionsC l  p hl hc 0 (by omega) _ (by simp [normE])) ?_ ?_
 rotate_right 1
 focus
  intro c1
  skip
 rotate_right 1
 focus
  intro c1
  skip
 all_goals first | refine blk_ret ?_ | refine blk_exit ?_
 all_goals first
 | refine aft_ret ?_
 | (
  refine aft_normal ?_
  refine wa_ (wc_region (w_ (a_ (h:=wo_nil (e_ (h:=aft_normal (wc_ret (?_))))))))
  )
 all_goals (refine fin_ (hr:=(res_tmp rfl res_nil)) (h:=?_);(focus (clear hc;first | (simp_all;done) | (simp_all <;> omega))))
theorem e_rf1C (d : Ct) : oc.call 204 [d.v] = some (.bool (decide (d.n = 0)),[]) := by
 refine fun_s rfl cd204 rfl rfl rfl (by simp;rfl) (by simp;rfl) ?_
 refine wa_ (wc_region (w_ (bx (h:=w_ (a_ (h:=wo_nil (e_ (h:=aft_normal (wa_ (wc_region (w_ (f_ (h:=w_ (l_ (h:=w_ (bE (h:=w_ (a_ (h:=?_)))))))))))))))))))
 refine wo_nil (e_ (h:=aft_normal (wc_ret (?_))))
 all_goals (refine fin_ (hr:=(res_tmp rfl res_nil)) (h:=?_);(focus (simp)))
def isUC (d : Ct) : Bool := decide (¬ d.n = 0)
def notUC (d : Ct) : Bool := decide (d.n = 0)
theorem idxU_negC : ∀ {l : List Ct} {i : Nat},¬ 0 ≤ idxUC notUC i l → l.filter isUC = l
  | [],_,_ => rfl
  | x :: r,i,h => by
    unfold idxUC at h
    by_cases hx : notUC x = true
    · rw [if_pos hx] at h;omega
    · rw [if_neg hx] at h
      have h4 : isUC x = true := by simp [notUC] at hx;simp [isUC,hx]
      rw [List.filter_cons,if_pos h4,idxU_negC h]
theorem idxU_posC : ∀ {l : List Ct} {i : Nat},0 ≤ idxUC notUC i l → ∃ k : Nat,idxUC notUC i l = ((i + k : Nat) : Int) ∧ k < l.length ∧ (l.take k).filter isUC = l.take k ∧ (l.drop k).filter isUC = (l.drop (k + 1)).filter isUC
  | [],i,h => by simp [idxUC] at h
  | x :: r,i,h => by
    unfold idxUC at h ⊢
    by_cases hx : notUC x = true
    · rw [if_pos hx]
      have h4 : ¬ isUC x = true := by simp [notUC] at hx;simp [isUC,hx]
      exact ⟨0,by simp,by simp,rfl,by simp [h4]⟩
    · rw [if_neg hx] at h ⊢
      obtain ⟨k,e1,e2,e3,e4⟩ := idxU_posC h
      have h4 : isUC x = true := by simp [notUC] at hx;simp [isUC,hx]
      exact ⟨k + 1,by rw [e1];congr 1;omega,by simp;omega,by rw [List.take_succ_cons,List.filter_cons,if_pos h4,e3],by simpa using e4⟩
def delFC : List Ct → Nat → List Ct → Nat × List Ct
  | [],i,r => (i,r)
  | d :: t,i,r => if isUC d = true then delFC t (i + 1) (r.set i d) else delFC t i r
theorem delF_isC : ∀ {t : List Ct} {i : Nat} {r : List Ct},i + t.length < r.length → (delFC t i r).2.length = r.length ∧ (delFC t i r).1 < r.length ∧ (delFC t i r).2.take (delFC t i r).1 = r.take i ++ t.filter isUC
  | [],i,r,h => by simp [delFC] at *;exact h
  | d :: t,i,r,h => by
    simp only [List.length_cons] at h
    unfold delFC
    by_cases hd : isUC d = true
    · rw [if_pos hd]
      obtain ⟨h1,h2,h3⟩ := delF_isC (t:=t) (i:=i + 1) (r:=r.set i d) (by simp;omega)
      simp only [List.length_set] at h1 h2
      refine ⟨h1,h2,?_⟩
      rw [h3,List.filter_cons,if_pos hd]
      have : (r.set i d).take (i + 1) = r.take i ++ [d] := by
        rw [List.take_add_one,List.getElem?_set_self (by omega),List.take_set_of_le (by omega)];rfl
      rw [this];simp
    · rw [if_neg hd]
      obtain ⟨h1,h2,h3⟩ := delF_isC (t:=t) (i:=i) (r:=r) (by omega)
      exact ⟨h1,h2,by rw [h3,List.filter_cons,if_neg hd]⟩
theorem drop_succ_eqC {α : Type} {r l : List α} {j : Nat} (h : r.drop j = l.drop j) : r.drop (j + 1) = l.drop (j + 1) := by
  rw [← List.drop_drop,h,List.drop_drop]
theorem l_delC (l : List Ct) (N : Nat) (hN : l.length = N) (hl : N < 2000000) : ∀ x : Nat × Nat × (List Ct),(x.1 < x.2.1 ∧ x.2.1 ≤ N ∧ x.2.2.length = N ∧ x.2.2.drop x.2.1 = l.drop x.2.1) → ∀ s,normE 2 (some [0,1,5,6]) s = ⟨[(0,.ref 0 0 N),(1,.clo 204 []),(5,.int .i64 x.1),(6,.int .i64 x.2.1)],[(0,⟨false,false,3,cts x.2.2,0⟩)],2⟩ →
 oc.loop 203 5 s = some (.exit 0,⟨[(0,.ref 0 0 N),(5,.int .i64 ((delFC (l.drop x.2.1) x.1 x.2.2).1 : Nat))],[(0,⟨false,false,3,cts (delFC (l.drop x.2.1) x.1 x.2.2).2,0⟩)],2⟩) := by
 refine loop_ind (σ:=Nat × Nat × (List Ct)) (fun x => N - x.2.1) _ (fun x => ⟨[(0,.ref 0 0 N),(1,.clo 204 []),(5,.int .i64 x.1),(6,.int .i64 x.2.1)],[(0,⟨false,false,3,cts x.2.2,0⟩)],2⟩) _ ?_
 rintro ⟨i,j,r⟩ hi ih s hs
 simp only at hi
 refine loop_s cd203 rfl rfl hs ?_
 obtain ⟨hi1,hi2,hi3,hi4⟩ := hi
 refine wa_ (wa_ (wc_region (w_ (m_ (h:=w_ (m_ (h:=w_ (le (h:=w_ (b_ (h:=wo_nil (e_ (h:=aft_normal (?_))))))))))))))
 refine c_ (h1:=?_) (h2:=?_)
 rotate_right 1
 focus
  intro c1
  first
  | exact dn c1
  | (
   have d1 := c1;try simp at d1
   refine wc_exit (?_)
   )
 rotate_right 1
 focus
  intro c1
  first
  | exact dn c1
  | (
   have d1 := c1;try simp at d1
   have hw := wrap_succ (i:=j) (by omega);have hwi := wrap_succ (i:=i) (by omega);obtain ⟨d,hx,e1,_⟩ := cts_cut (l:=l) (i:=j) (by omega);have hy : r[j]? = some d := (by have := congrArg (fun q => q[0]?) hi4;simpa [hx] using this);have g2 : (cts r)[j]? = some (d.v) := cts_getC hy;obtain ⟨y,hy2⟩ : ∃ y,r[i]? = some y := ⟨r[i]'(by omega),by simp⟩;have g3 : (cts r)[i]? = some (y.v) := cts_getC hy2;have e2 := drop_succ_eqC hi4
   refine wc_skip (?_)
   )
 all_goals first
 | refine aft_exit ?_
 | (
  refine aft_normal ?_
  refine wa_ (wc_block (wa_ (wc_region (w_ (m_ (h:=w_ (m_ (h:=w_ (x_ (h:=w_ (l_ (h:=w_ (al (h:=w0 (s_ (h:=wo_nil (e_ (h:=aft_normal (?_)))))))))))))))))))
  refine wa_ (wc_region (w_ (m_ (h:=w_ (l_ (h:=w_ (ca (hc:=e_rf1C d) (h:=w_ (u_ (h:=wo_nil (e_ (h:=aft_normal (?_)))))))))))))
  refine c_ (h1:=?_) (h2:=?_)
  rotate_right 1
  focus
   intro c2
   first
   | exact dn c2
   | (
    have d2 := c2;try simp at d2
    refine wc_skip (?_)
    )
  rotate_right 1
  focus
   intro c2
   first
   | exact dn c2
   | (
    have d2 := c2;try simp at d2
    refine wa_ (wc_region (w_ (m_ (h:=w_ (m_ (h:=w_ (l_ (h:=w_ (x_ (h:=w0 (s_ (h:=wo_nil (e_ (h:=aft_normal (wc_region (w_ (m_ (h:=w_ (b_ (h:=?_))))))))))))))))))))
    refine w_ (a_ (h:=wo_nil (e_ (h:=?_))))
    )
  all_goals refine blk_normal ?_
  all_goals first
  | (
   refine aft_normal ?_
   refine wc_region (w_ (m_ (h:=w_ (b_ (h:=w_ (a_ (h:=wo_nil (e_ (h:=?_)))))))))
   )
  )
 all_goals first
 | (refine (ih ((i + 1,j + 1,r.set i d)) (⟨by simp;omega,by simp;omega,by simpa using hi3,by simp only;rw [List.drop_set_of_lt (by omega)];exact e2⟩) ?_ _ ?_).trans ?_;(focus (first | omega | (simp;done) | (simp;omega)));(focus (simp [normE,hw,hwi,cts_set];done));(focus (rw [e1,delFC,if_pos (by simpa [isUC] using d2)])))
 | (refine (ih ((i,j + 1,r)) (⟨by simp;omega,by simp;omega,by simpa using hi3,by simp only;exact e2⟩) ?_ _ ?_).trans ?_;(focus (first | omega | (simp;done) | (simp;omega)));(focus (simp [normE,hw];done));(focus (rw [e1,delFC,if_neg (by simpa [isUC] using d2)])))
 | (apply end_leaf (ex:=(Ext.exit 0)) 2 (some [0,5]);(focus (simp [normE];rfl));(focus (dsimp only;rw [List.drop_eq_nil_of_le (by omega)];simp [delFC])))
theorem cut_tailC {e : List (Nat × V)} {o : List (Nat × Ob)} {n N I : Nat} {ob : Ob} {k : Nat} {a : Int} (ha : a = (I : Int)) (hI : I < N) (ho : geta o 0 = some ob) (hs : ob.sz = k) : cutV ⟨e,o,n⟩ k (.ref 0 0 N) a (N : Int) = some (.ref 0 I (N - I)) := by
  subst ha
  unfold cutV
  by_cases h : (I : Int) = 0
  · have : I = 0 := by omega
    subst this
    simp
  · simp only [if_neg h,if_neg (show ¬ (I : Int) = (N : Int) by omega),ho,hs,if_true]
    simp
theorem e_delUC (l : List Ct) (hl : l.length < 2000000) : oc.call 203 [.lst true 3 (cts l),.clo 204 []] = some (.lst true 3 (cts (l.filter isUC)),[]) := by
  have hix := e_ix_UnionsC l notUC hl (fun x _ => by simpa [notUC] using e_rf1C x)
  by_cases hp : 0 ≤ idxUC notUC 0 l
  · obtain ⟨k,e1,e2,e3,e4⟩ := idxU_posC hp
    rw [if_pos hp,e1] at hix
    simp only [Nat.zero_add] at hix
    obtain ⟨D1,D2,D3⟩ := delF_isC (t:=l.drop (k + 1)) (i:=k) (r:=l) (by simp;omega)
    have hfilt : l.filter isUC = l.take k ++ (l.drop (k + 1)).filter isUC := by
      conv => lhs;rw [← List.take_append_drop k l]
      rw [List.filter_append,e3,e4]
    rw [← hfilt] at D3
    obtain ⟨I,R,hD⟩ : ∃ I R,delFC (l.drop (k + 1)) k l = (I,R) := ⟨_,_,rfl⟩
    rw [hD] at D1 D2 D3
    simp only at D1 D2 D3
    obtain ⟨F,hF⟩ : ∃ F,l.filter isUC = F := ⟨_,rfl⟩
    rw [hF] at D3 ⊢
    have hFl : F.length = I := by rw [← D3,List.length_take];omega
    subst hFl
    have hw : IntKind.i64.wrap ((k : Int) + 1) = ((k + 1 : Nat) : Int) := wrap_succ (by omega)
    have hdel := l_delC l l.length rfl hl (k,k + 1,l) ⟨by simp,by simp;omega,rfl,rfl⟩
    simp only [hD] at hdel
    refine fun_s rfl cd203 rfl rfl rfl (by simp;rfl) (by simp;rfl) ?_
    refine wa_ (wc_region (w_ (aN (h:=wo_nil (e_ (h:=aft_normal (wa_ (wc_region (w_ (m_ (h:=w_ (m_ (h:=w_ (ca (hc:=hix) (h:=w_ (a_ (h:=wo_nil (e_ (h:=?_)))))))))))))))))))
    refine aft_normal (wa_ (wa_ (wc_region (w_ (m_ (h:=w_ (bE (h:=wo_nil (e_ (h:=aft_normal (?_)))))))))))
    refine c_ (h1:=?_) (h2:=?_)
    rotate_right 1
    focus
     intro c1
     first
     | exact dn c1
     | (have d1 := c1;try simp at d1
        refine wc_skip (?_)
        )
    rotate_right 1
    focus
     intro c1
     first
     | exact dn c1
     | (have d1 := c1;try simp at d1
        exfalso;simp at c1;omega
        )
    all_goals first
    | refine aft_ret ?_
    | (refine aft_normal ?_
       refine wa_ (wa_ (wc_region (w_ (m_ (h:=w_ (b_ (h:=w_ (a_ (h:=wo_nil (e_ (h:=aft_normal (wc_block (?_)))))))))))))
       refine wc_loop (hdel _ (by simp [normE,hw])) ?_
       refine blk_exit (aft_normal (wa_ (wc_region (w_ (m_ (h:=w_ (m_ (h:=w_ (?_)))))))))
       refine sl (v:=.ref 0 F.length (l.length - F.length)) (hv:=cut_tailC rfl (by omega) rfl rfl) (h:=?_)
       refine w0 (?_)
       refine cl (ws:=cts F) (hw:=by simp [D3]) (h:=?_)
       refine wo_nil (e_ (h:=aft_normal (wa_ (wc_region (w_ (m_ (h:=w_ (m_ (h:=w_ (sl (h:=w_ (a_ (h:=wo_nil (e_ (h:=aft_normal (wc_ret (?_)))))))))))))))))
       )
    all_goals (refine fin_ (hr:=(res_tmp rfl res_nil)) (h:=?_);(focus (simp)))
  · have hfil := idxU_negC hp
    rw [if_neg hp] at hix
    rw [hfil]
    refine fun_s rfl cd203 rfl rfl rfl (by simp;rfl) (by simp;rfl) ?_
    refine wa_ (wc_region (w_ (aN (h:=wo_nil (e_ (h:=aft_normal (wa_ (wc_region (w_ (m_ (h:=w_ (m_ (h:=w_ (ca (hc:=hix) (h:=w_ (a_ (h:=wo_nil (e_ (h:=?_)))))))))))))))))))
    refine aft_normal (wa_ (wa_ (wc_region (w_ (m_ (h:=w_ (bE (h:=wo_nil (e_ (h:=aft_normal (?_)))))))))))
    refine c_ (h1:=?_) (h2:=?_)
    rotate_right 1
    focus
     intro c1
     first
     | exact dn c1
     | (have d1 := c1;try simp at d1
        exfalso;simp at c1
        )
    rotate_right 1
    focus
     intro c1
     first
     | exact dn c1
     | (have d1 := c1;try simp at d1
        refine wa_ (wc_region (w_ (m_ (h:=w_ (a_ (h:=wo_nil (e_ (h:=aft_normal (wc_ret (?_))))))))))
        )
    all_goals first
    | refine aft_ret ?_
    | (refine aft_normal ?_
       refine wa_ (wa_ (wc_region (w_ (m_ (h:=w_ (b_ (h:=w_ (a_ (h:=wo_nil (e_ (h:=aft_normal (wc_block (?_)))))))))))))
       refine wc_loop (hix) ?_
       refine blk_exit (aft_normal (wa_ (wc_region (w_ (m_ (h:=w_ (m_ (h:=w_ (sl (h:=w0 (cl (h:=wo_nil (e_ (h:=aft_normal (wa_ (wc_region (?_)))))))))))))))))
       refine w_ (m_ (h:=w_ (m_ (h:=w_ (sl (h:=w_ (a_ (h:=wo_nil (e_ (h:=aft_normal (wc_ret (?_))))))))))))
       )
    all_goals (refine fin_ (hr:=(res_tmp rfl res_nil)) (h:=?_);(focus (simp)))
theorem run_new {S : List Ct} (hS : Srt ltC 0 S.length S) {i : Nat} (h : i < S.length) (hc : i = 0 ∨ byC (nth S (i - 1)) (nth S i) ≠ 0) (hn : IntKind.i64.wrap (0 + (nth S i).n) = (nth S i).n) :
    (S.take (i + 1)).foldl putC [] = (S.take i).foldl putC [] ++ [⟨(nth S i).pl,(nth S i).ep,IntKind.i64.wrap (0 + (nth S i).n)⟩] := by
  have hst : S.take (i + 1) = S.take i ++ [nth S i] := by rw [List.take_add_one,nth_get h];rfl
  rw [hst,List.foldl_append,hn]
  rcases Nat.eq_zero_or_pos i with rfl | hi
  · rfl
  · obtain ⟨init,x,e,e1,e2,hy⟩ := runs_inv hS (i - 1) (by omega)
    rw [show i - 1 + 1 = i by omega] at e
    have hle := hS (i - 1) i (by omega) (by omega) h
    rw [ltC_no] at hle
    have hb : byC (nth S (i - 1)) (nth S i) ≠ 0 := by rcases hc with h | h;· omega
                                                      · exact h
    have hlt : ltC (nth S (i - 1)) (nth S i) = true := by
      rw [ltC_iff]
      unfold byC at hb
      split at hb
      · rename_i h0;rw [cmpI_nil] at h0;have : ¬ (nth S (i - 1)).ep = (nth S i).ep := fun e => hb (cmpI_nil.2 e);omega
      · rename_i h0;rw [cmpI_nil] at h0;omega
    rw [e]
    show putC (init ++ [x]) (nth S i) = _
    rw [ltC_iff] at hlt
    rw [putC_last (by rw [ltC_no];omega) (fun y h1 => by have := hy y h1;rw [ltC_iff] at this ⊢;omega),if_pos (by rw [ltC_iff];omega)]
    simp
theorem run_old {S : List Ct} (hS : Srt ltC 0 S.length S) {i : Nat} (h : i < S.length) (hi : 0 < i) (hc : byC (nth S (i - 1)) (nth S i) = 0) :
    ∃ init x,(S.take i).foldl putC [] = init ++ [x] ∧ (S.take (i + 1)).foldl putC [] = init ++ [⟨x.pl,x.ep,IntKind.i64.wrap (x.n + (nth S i).n)⟩] := by
  have hst : S.take (i + 1) = S.take i ++ [nth S i] := by rw [List.take_add_one,nth_get h];rfl
  obtain ⟨init,x,e,e1,e2,hy⟩ := runs_inv hS (i - 1) (by omega)
  rw [show i - 1 + 1 = i by omega] at e
  have hk : (nth S (i - 1)).pl = (nth S i).pl ∧ (nth S (i - 1)).ep = (nth S i).ep := by
    unfold byC at hc
    split at hc
    · rename_i h0;rw [cmpI_nil] at h0 hc;exact ⟨h0,hc⟩
    · rename_i h0;exact absurd hc h0
  refine ⟨init,x,e,?_⟩
  rw [hst,List.foldl_append,e]
  show putC (init ++ [x]) (nth S i) = _
  rw [putC_last (by rw [ltC_no];omega) (fun y h1 => by have := hy y h1;rw [ltC_iff] at this ⊢;omega),if_neg (by rw [ltC_iff];omega)]
  rfl
theorem fold_len {S : List Ct} : ∀ {acc : List Ct},(S.foldl putC acc).length ≤ acc.length + S.length := by
  have put1 : ∀ (l : List Ct) (c : Ct),(putC l c).length ≤ l.length + 1 := by
    intro l c
    induction l with
    | nil => simp [putC]
    | cons x r ih =>
      rw [putC_cons]
      split
      · simpa using ih
      · split <;> simp
  induction S with
  | nil => intro acc;simp
  | cons c l ih =>
    intro acc
    have h1 := ih (acc:=putC acc c)
    have h2 := put1 acc c
    simp only [List.foldl_cons,List.length_cons] at *
    omega
theorem l_runs (S : List Ct) (hS : Srt ltC 0 S.length S) (hl : S.length < 2000000) (hn : ∀ i,i < S.length → IntKind.i64.wrap (0 + (nth S i).n) = (nth S i).n) : ∀ x : Nat × (List Ct),(x.1 ≤ S.length ∧ (S.take x.1).foldl putC [] = x.2) → ∀ s,normE 2 (some [6,7,17,18,19]) s = ⟨[(6,.ref 2 0 S.length),(7,.ref 3 0 x.2.length),(17,.ref 2 0 S.length),(18,.int .i64 S.length),(19,.int .i64 x.1)],[(2,⟨false,false,3,cts S,0⟩),(3,⟨false,false,3,cts x.2,0⟩)],4⟩ →
 oc.loop 126 4 s = some (.exit 0,⟨[(7,.ref 2 0 (S.foldl putC []).length)],[(2,⟨false,false,3,cts (S.foldl putC []),0⟩)],3⟩) := by
 refine loop_ind (σ:=Nat × (List Ct)) (fun x => S.length - x.1) _ (fun x => ⟨[(6,.ref 2 0 S.length),(7,.ref 3 0 x.2.length),(17,.ref 2 0 S.length),(18,.int .i64 S.length),(19,.int .i64 x.1)],[(2,⟨false,false,3,cts S,0⟩),(3,⟨false,false,3,cts x.2,0⟩)],4⟩) _ ?_
 rintro ⟨i,out⟩ hi ih s hs
 simp only at hi
 refine loop_s cd126 rfl rfl hs ?_
 obtain ⟨hi1,hi2⟩ := hi
 have hol : out.length ≤ i := by have := fold_len (S:=S.take i) (acc:=[]);rw [hi2] at this;simp at this;omega
 refine wa_ (wc_region (w_ (b_ (h:=wo_nil (e_ (h:=aft_normal (wa_ (?_))))))))
 refine c_ (h1:=?_) (h2:=?_)
 rotate_right 1
 focus
  intro c1
  first
  | exact dn c1
  | (
   have d1 := c1;try simp at d1
   refine wc_exit (?_)
   )
 rotate_right 1
 focus
  intro c1
  first
  | exact dn c1
  | (
   have d1 := c1;try simp at d1
   have hi : i < S.length := (by simp at c1;omega);have hw := wrap_succ (i:=i) (by omega);have g1 : (cts S)[i]? = some (nth S i).v := cts_nth hi;have g2 : (cts S)[i - 1]? = some (nth S (i - 1)).v := cts_nth (by omega)
   refine wc_skip (?_)
   )
 all_goals first
 | refine aft_exit ?_
 | (
  refine aft_normal ?_
  refine wa_ (wc_block (wa_ (wc_region (w_ (m_ (h:=w_ (x_ (h:=w_ (l_ (h:=w_ (al (h:=w_ (a_ (h:=w0 (s_ (h:=wo_nil (e_ (h:=aft_normal (?_)))))))))))))))))))
  refine wa_ (wa_ (wc_draw (y_ (m_ (h:=ax_ (h:=y_ (bE (h:=ax_ (h:=y_ (m_ (h:=ax_ (h:=?_))))))))))))
  refine gw_ (h1:=?_) (h2:=?_)
  rotate_right 1
  focus
   intro c2
   first
   | exact dn c2
   | (
    have d2 := c2;try simp at d2
    refine gd_ (h:=gd_ (h:=gd_ (h:=gd_ (h:=gd_ (h:=gd_ (h:=gd_ (h:=gd_ (h:=?_))))))))
    )
  rotate_right 1
  focus
   intro c2
   first
   | exact dn c2
   | (
    have d2 := c2;try simp at d2
    refine g_ (h:=y_ (m_ (h:=ax_ (h:=g_ (h:=y_ (m_ (h:=ax_ (h:=g_ (h:=y_ (?_))))))))))
    refine b_ (hv:=iv_sub (c:=i - 1) (by omega) (by omega)) (h:=?_)
    refine ax_ (h:=g_ (h:=y_ (x_ (h:=ax_ (h:=g_ (h:=y_ (l_ (h:=ax_ (h:=g_ (h:=y_ (l_ (h:=ax_ (h:=g_ (h:=y_ (ca (hc:=e_byC (nth S (i - 1)) (nth S i)) (h:=ax_ (h:=g_ (h:=y_ (bE (h:=ax_ (h:=?_)))))))))))))))))))))
    )
  all_goals
   refine y_ (pk (h:=ax_ (h:=wo_nil (ed (h:=?_)))))
  all_goals first
  | (
   refine aft_normal ?_
   refine c_ (h1:=?_) (h2:=?_)
   rotate_right 1
   focus
    intro c3
    first
    | exact dn c3
    | (
     have d3 := c3;try simp at d3
     have e3 : 0 < i ∧ byC (nth S (i - 1)) (nth S i) = 0 := (by simp at c2 c3;omega);obtain ⟨init,x,ho,hold⟩ := run_old hS hi e3.1 e3.2;obtain rfl : out = init ++ [x] := hi2.symm.trans ho;have hil : init.length < 2000000 := (by rw [List.length_append] at hol;omega);obtain ⟨L,hL⟩ : ∃ L,L = init.length := ⟨_,rfl⟩;have g3 : (cts (init ++ [x]))[L]? = some (V.agg [.int .i64 x.pl,.int .i64 x.ep,.int .i64 x.n]) := (by subst hL;simp [cts,Ct.v]);have g4 : (init ++ [x]).set L (⟨x.pl,x.ep,IntKind.i64.wrap (x.n + (nth S i).n)⟩ : Ct) = init ++ [⟨x.pl,x.ep,IntKind.i64.wrap (x.n + (nth S i).n)⟩] := (by subst hL;simp)
     refine wc_skip (?_)
     )
   rotate_right 1
   focus
    intro c3
    first
    | exact dn c3
    | (
     have d3 := c3;try simp at d3
     have e3 : i = 0 ∨ byC (nth S (i - 1)) (nth S i) ≠ 0 := (by first | (left;simp at c2;omega) | (right;simpa using c3));have hnew := run_new hS hi e3 (hn i hi);rw [hi2] at hnew;obtain ⟨L,hL⟩ : ∃ L,L = out.length := ⟨_,rfl⟩;have g3 : (cts (out ++ [⟨(nth S i).pl,(nth S i).ep,0⟩]))[L]? = some (V.agg [.int .i64 (nth S i).pl,.int .i64 (nth S i).ep,.int .i64 0]) := (by subst hL;simp [cts,Ct.v]);have g4 : (out ++ [(⟨(nth S i).pl,(nth S i).ep,0⟩ : Ct)]).set L (⟨(nth S i).pl,(nth S i).ep,(nth S i).n⟩ : Ct) = out ++ [⟨(nth S i).pl,(nth S i).ep,(nth S i).n⟩] := (by subst hL;simp);have hn0 := hn i hi;have hn1 : IntKind.i64.wrap (nth S i).n = (nth S i).n := (by simpa using hn0)
     refine wc_region (w_ (m_ (h:=w_ (f_ (h:=w_ (l_ (h:=w_ (f_ (h:=w_ (l_ (h:=w_ (bd (h:=w_ (bs (h:=w_ (ap (h:=w_ (a_ (h:=wo_nil (e_ (h:=?_)))))))))))))))))))))
     )
   )
  all_goals first
  | (
   refine aft_normal ?_
   refine wc_draw (y_ (m_ (h:=ax_ (h:=y_ (m_ (h:=ax_ (h:=y_ (le (h:=ax_ (h:=y_ (?_)))))))))))
   refine b_ (hv:=iv_sub (c:=L) (by simp;omega) (by omega)) (h:=?_)
   refine ax_ (h:=y_ (x_ (h:=ax_ (h:=y_ (f_ (h:=ax_ (h:=y_ (l_ (h:=ax_ (h:=y_ (f_ (h:=ax_ (h:=y_ (l_ (h:=ax_ (h:=y_ (b_ (h:=ax_ (h:=y_ (x_ (h:=ax_ (h:=y_ (f_ (h:=ax_ (h:=y0 (s_ (h:=ax_ (h:=wo_nil (ed (h:=?_))))))))))))))))))))))))))))))
   )
  all_goals refine blk_normal ?_
  all_goals first
  | (
   refine aft_normal ?_
   refine wc_region (w_ (b_ (h:=w_ (m_ (h:=wo_nil (e_ (h:=?_)))))))
   )
  )
 all_goals first
 | (refine (ih ((i + 1,out ++ [⟨(nth S i).pl,(nth S i).ep,IntKind.i64.wrap (0 + (nth S i).n)⟩])) (⟨by simp only;omega,by simp only;rw [hnew]⟩) ?_ _ ?_).trans ?_;(focus (first | omega | (simp;done) | (simp;omega)));(focus (simp [normE,hw,g4,hn1];done));(focus (rfl)))
 | (refine (ih ((i + 1,init ++ [⟨x.pl,x.ep,IntKind.i64.wrap (x.n + (nth S i).n)⟩])) (⟨by simp only;omega,by simp only;rw [hold]⟩) ?_ _ ?_).trans ?_;(focus (first | omega | (simp;done) | (simp;omega)));(focus (simp [normE,hw,g4];done));(focus (rfl)))
 | (apply end_leaf (ex:=(Ext.exit 0)) 2 (some [7]);(focus (simp [normE];rfl));(focus (rw [← hi2,List.take_of_length_le (by simp at c1;omega)])))
end Go.Proofs.Ytgkbmiaimjpbfaa.Ev
namespace Go.Proofs.Ytgkbmiaimjpbfaa.Ev
open Go
set_option maxRecDepth 100000
set_option linter.unusedSimpArgs false
set_option linter.unusedVariables false
set_option maxHeartbeats 2000000
def okW (c : Ct) : Bool := inI c.n (-1000000000000) 1000000000000
def badW (c : Ct) : Bool := !okW c
theorem l_ix_BigC (l : List (Ct))  (p : Ct → Bool) (hl : l.length < 2000000) (hc : ∀ x ∈ l,oc.call 206 [x.v] = some (.bool (p x),[])) : ∀ i : Nat,i ≤ l.length → ∀ s,normE 2 (some [0,1,7,8]) s = ⟨[(0,.lst false 0 (cts l)),(1,.clo 206 []),(7,.int .i64 l.length),(8,.int .i64 i)],[],2⟩ →
 oc.loop 234 2 s = some (if 0 ≤ idxUC p i (l.drop i) then (.ret,⟨[(4,.int .i64 (idxUC p i (l.drop i)))],[],2⟩) else (.exit 0,⟨[],[],2⟩)) := by
 refine loop_ind (fun i => l.length - i) _ (fun i => ⟨[(0,.lst false 0 (cts l)),(1,.clo 206 []),(7,.int .i64 l.length),(8,.int .i64 i)],[],2⟩) _ ?_
 intro i hi ih s hs
 refine loop_s cd234 rfl rfl hs ?_
 refine wa_ (wc_region (w_ (b_ (h:=wo_nil (e_ (h:=aft_normal (wa_ (?_))))))))
 refine c_ (h1:=?_) (h2:=?_)
 rotate_right 1
 focus
  intro c1
  first
  | exact dn c1
  | (
   have d1 := c1;try simp at d1
   refine wc_exit (?_)
   )
 rotate_right 1
 focus
  intro c1
  first
  | exact dn c1
  | (
   have d1 := c1;try simp at d1
   have hw := wrap_succ (i:=i) (by omega);obtain ⟨x,hx,e1,g1⟩ := cts_cut (l:=l) (i:=i) (by omega);have hq := hc x (List.mem_of_getElem? hx)
   refine wc_skip (?_)
   )
 all_goals first
 | refine aft_exit ?_
 | (
  refine aft_normal ?_
  refine wa_ (wc_block (wa_ (wc_region (w_ (m_ (h:=w_ (a_ (h:=wo_nil (e_ (h:=aft_normal (wa_ (wc_region (w_ (m_ (h:=w_ (m_ (h:=?_)))))))))))))))))
  refine w_ (m_ (h:=w_ (x_ (h:=w_ (l_ (h:=w_ (?_)))))))
  refine k_callS rfl rfl (by rw [cf_in];rfl) rfl (by rw [cf_md];rfl) (by simp [cf_md,mdT];rfl) (by first | rfl | simp [*]) hq rfl (by simp;rfl) (by simp [cf_md,mdT]) (by simp;rfl) (by simp;rfl) ?_
  refine wo_nil (e_ (h:=aft_normal (?_)))
  refine c_ (h1:=?_) (h2:=?_)
  rotate_right 1
  focus
   intro c2
   first
   | exact dn c2
   | (
    have d2 := c2;try simp at d2
    refine wc_skip (?_)
    )
  rotate_right 1
  focus
   intro c2
   first
   | exact dn c2
   | (
    have d2 := c2;try simp at d2
    refine wa_ (wc_region (w_ (m_ (h:=w_ (a_ (h:=wo_nil (e_ (h:=aft_normal (wc_ret (?_))))))))))
    )
  all_goals first | refine blk_normal ?_ | refine blk_ret ?_
  all_goals first
  | refine aft_ret ?_
  | (
   refine aft_normal ?_
   refine wc_region (w_ (b_ (h:=w_ (m_ (h:=wo_nil (e_ (h:=?_)))))))
   )
  )
 all_goals first
 | (refine (ih (i + 1) (by omega) ?_ _ ?_).trans ?_;(focus (first | omega | (simp;done) | (simp;omega)));(focus (simp [normE,hw];done));(focus (rw [e1];simp only [idxUC,if_neg (show ¬ p x = true by simp [d2])])))
 | (apply end_leaf (ex:=Ext.ret) 2 (some [4]);(focus (simp [normE];rfl));(focus (rw [e1];simp [idxUC,d2])))
 | (apply end_leaf (ex:=(Ext.exit 0)) 2 (some [4]);(focus (simp [normE];rfl));(focus (rw [List.drop_eq_nil_of_le (by omega)];simp [idxUC])))
theorem e_ix_BigC (l : List (Ct))  (p : Ct → Bool) (hl : l.length < 2000000) (hc : ∀ x ∈ l,oc.call 206 [x.v] = some (.bool (p x),[])) : oc.call 234 [.lst false 0 (cts l),.clo 206 []] = some (.int .i64 (if 0 ≤ idxUC p 0 l then idxUC p 0 l else -1),[]) := by
 refine fun_s rfl cd234 rfl rfl rfl (by simp;rfl) (by simp;rfl) ?_
 refine wa_ (wc_region (w_ (a_ (h:=wo_nil (e_ (h:=aft_normal (wa_ (wa_ (wc_region (w_ (m_ (h:=w_ (le (h:=w_ (m_ (h:=wo_nil (e_ (h:=?_))))))))))))))))))
 refine aft_normal (wc_block (?_))
 refine wc_loopI (l_ix_BigC l  p hl hc 0 (by omega) _ (by simp [normE])) ?_ ?_
 rotate_right 1
 focus
  intro c1
  skip
 rotate_right 1
 focus
  intro c1
  skip
 all_goals first | refine blk_ret ?_ | refine blk_exit ?_
 all_goals first
 | refine aft_ret ?_
 | (
  refine aft_normal ?_
  refine wa_ (wc_region (w_ (a_ (h:=wo_nil (e_ (h:=aft_normal (wc_ret (?_))))))))
  )
 all_goals (refine fin_ (hr:=(res_tmp rfl res_nil)) (h:=?_);(focus (clear hc;first | (simp_all;done) | (simp_all <;> omega))))
theorem e_any_BigC (l : List (Ct))  (p : Ct → Bool) (hl : l.length < 2000000) (hc : ∀ x ∈ l,oc.call 206 [x.v] = some (.bool (p x),[])) : oc.call 205 [.lst false 0 (cts l),.clo 206 []] = some (.bool (l.any p),[]) := by
 refine fun_s rfl cd205 rfl rfl rfl (by simp;rfl) (by simp;rfl) ?_
 refine wa_ (wc_region (w_ (a_ (h:=wo_nil (e_ (h:=aft_normal (wa_ (wc_region (w_ (m_ (h:=w_ (m_ (h:=w_ (ca (hc:=e_ix_BigC l  p hl hc) (h:=w_ (b_ (h:=w_ (a_ (h:=?_)))))))))))))))))))
 refine wo_nil (e_ (h:=aft_normal (wc_ret (?_))))
 all_goals (refine fin_ (hr:=(res_tmp rfl res_nil)) (h:=?_);(focus (clear hc;rw [← idxU_anyC (i:=0)];simp;grind)))
theorem e_rf2C (d : Ct) : oc.call 206 [d.v] = some (.bool (badW d),[]) := by
 refine fun_s rfl cd206 rfl rfl rfl (by simp;rfl) (by simp;rfl) ?_
 refine wa_ (wc_region (w_ (bx (h:=w_ (a_ (h:=wo_nil (e_ (h:=aft_normal (wa_ (wc_region (w_ (f_ (h:=w_ (l_ (h:=w_ (ca (hc:=e_isWeight _) (h:=w_ (u_ (h:=?_)))))))))))))))))))
 refine w_ (a_ (h:=wo_nil (e_ (h:=aft_normal (wc_ret (?_))))))
 all_goals (refine fin_ (hr:=(res_tmp rfl res_nil)) (h:=?_);(focus (simp [badW,okW])))
def addS (t : List Ct) : List Ct × Int := if t.any badW = true then ([],8) else if 200 < (t.filter isUC).length then ([],2) else (t.filter isUC,0)
theorem any_flt : ∀ (t : List Ct),(t.filter isUC).any badW = t.any badW
  | [] => rfl
  | c :: t => by
    have ih := any_flt t
    rw [List.filter_cons,List.any_cons]
    by_cases h : isUC c = true
    · rw [if_pos h,List.any_cons,ih]
    · rw [if_neg h,ih]
      have h0 : c.n = 0 := by simpa [isUC] using h
      have : badW c = false := by simp [badW,okW,h0,inI]
      rw [this];rfl
theorem nth_mem {α : Type} [Inhabited α] {l : List α} {i : Nat} (h : i < l.length) : nth l i ∈ l := List.mem_of_getElem? (nth_get h)
theorem e_addC (l m : List Ct) (hl : l.length < 500000) (hm : m.length < 500000) (hs1 : l.Pairwise (fun x y => ltC x y = true)) (hn : ∀ x ∈ l ++ m,IntKind.i64.wrap (0 + x.n) = x.n) : oc.call 126 [.lst false 0 (cts l),.lst false 0 (cts m)] = some (.tup [.lst true 3 (cts (addS (m.foldl putC l)).1),.int .i64 (addS (m.foldl putC l)).2],[]) := by
 refine fun_s rfl cd126 rfl rfl rfl (by simp;rfl) (by simp;rfl) ?_
 have hlm : (l ++ m).length < 1000000 := by simp;omega
 have hpp := (stb_ok O_ltC (l ++ m)).1
 have hse := sum_eq (m:=m) hs1
 obtain ⟨T,hT⟩ : ∃ T,(stb ltC (l ++ m)).foldl putC [] = T := ⟨_,rfl⟩
 rw [hT] at hse
 have hTl : T.length < 1000000 := by have := fold_len (S:=stb ltC (l ++ m)) (acc:=[]);rw [hT] at this;have := hpp.length_eq;simp at *;omega
 have hFl : (T.filter isUC).length < 1000000 := Nat.lt_of_le_of_lt (List.length_filter_le _ _) hTl
 have hrun := l_runs (stb ltC (l ++ m)) (by have := (stb_ok O_ltC (l ++ m)).2;rwa [← hpp.length_eq] at this) (by rw [hpp.length_eq];omega) (fun i hi => hn _ (hpp.mem_iff.1 (nth_mem hi))) (0,[]) ⟨by simp,by simp⟩
 rw [hT] at hrun
 have hpl : (stb ltC (l ++ m)).length = l.length + m.length := by rw [hpp.length_eq];simp
 refine wa_ (wc_region (w_ (aN (h:=w_ (a_ (h:=wo_nil (e_ (h:=aft_normal (wa_ (wc_region (w_ (m_ (h:=w_ (m_ (h:=w_ (bs (h:=w_ (ca (hc:=e_catC [l,m] (by simp) (by simp [lenSC];omega) (by simp)) (h:=?_)))))))))))))))))))
 refine w_ (bs (h:=w_ (a_ (h:=w_ (a_ (h:=wo_nil (e_ (h:=aft_normal (wa_ (wc_region (w_ (m_ (h:=w_ (?_))))))))))))))
 refine cI (hc:=e_stab (l ++ m) (by omega)) (hal:=cts_alk hpp.length_eq.symm) (h:=?_)
 refine wo_nil (e_ (h:=aft_normal (wa_ (wa_ (wc_region (w_ (m_ (h:=w_ (le (h:=w_ (m_ (h:=wo_nil (e_ (h:=aft_normal (wc_block (?_))))))))))))))))
 refine wc_loop (hrun _ (by simp [normE,hpl])) ?_
 refine blk_exit (aft_normal (wa_ (wc_region (w_ (m_ (h:=w_ (?_)))))))
 refine caT (hc:=e_delUC T (by omega)) (h:=?_)
 refine w_ (a_ (h:=wo_nil (e_ (h:=aft_normal (wa_ (wc_block (wa_ (wc_region (w_ (m_ (h:=w_ (ca (hc:=e_any_BigC (T.filter isUC) badW (by omega) (fun x _ => e_rf2C x)) (h:=w_ (a_ (h:=wo_nil (e_ (h:=aft_normal (?_))))))))))))))))))
 refine c_ (h1:=?_) (h2:=?_)
 rotate_right 1
 focus
  intro c1
  first
  | exact dn c1
  | (
   have d1 := c1;try simp at d1
   refine wa_ (wc_region (w_ (m_ (h:=w_ (le (h:=w_ (b_ (h:=w_ (a_ (h:=wo_nil (e_ (h:=aft_normal (?_)))))))))))))
   refine c_ (h1:=?_) (h2:=?_)
   rotate_right 1
   focus
    intro c2
    first
    | exact dn c2
    | (
     have d2 := c2;try simp at d2
     refine wc_skip (?_)
     )
   rotate_right 1
   focus
    intro c2
    first
    | exact dn c2
    | (
     have d2 := c2;try simp at d2
     refine wa_ (wc_region (w_ (aN (h:=w_ (a_ (h:=wo_nil (e_ (h:=aft_normal (wc_ret (?_))))))))))
     )
   )
 rotate_right 1
 focus
  intro c1
  first
  | exact dn c1
  | (
   have d1 := c1;try simp at d1
   refine wa_ (wc_region (w_ (aN (h:=w_ (a_ (h:=wo_nil (e_ (h:=aft_normal (wc_ret (?_))))))))))
   )
 all_goals first | refine blk_normal ?_ | refine blk_ret ?_
 all_goals first
 | refine aft_ret ?_
 | (
  refine aft_normal ?_
  refine wa_ (wc_region (w_ (m_ (h:=w_ (a_ (h:=w_ (a_ (h:=wo_nil (e_ (h:=aft_normal (wc_ret (?_))))))))))))
  )
 all_goals (refine fin_ (hr:=(res_tmp rfl (res_tmp rfl res_nil))) (h:=?_);(focus (rw [hse];unfold addS;rw [← any_flt];first | (simp [*];done) | (rw [if_neg (by simp [*]),if_pos (by first | assumption | omega | (simp at *;omega))];simp;done) | (rw [if_neg (by simp [*]),if_neg (by first | assumption | omega | (simp at *;omega))];simp;done))))
def posC : List Ct → Ct → Nat
  | [],_ => 0
  | x :: r,c => if ltC x c = true then posC r c + 1 else 0
theorem posC_le : ∀ (l : List Ct) (c : Ct),posC l c ≤ l.length
  | [],_ => by simp [posC]
  | x :: r,c => by
    have := posC_le r c
    unfold posC;split <;> simp <;> omega
theorem putC_at : ∀ (l : List Ct) (c : Ct),posC l c < l.length → ltC c (nth l (posC l c)) = false → putC l c = l.set (posC l c) (addN (nth l (posC l c)) c)
  | [],c,h,_ => by simp [posC] at h
  | x :: r,c,h,h2 => by
    rw [putC_cons]
    by_cases hx : ltC x c = true
    · have e : posC (x :: r) c = posC r c + 1 := by show (if ltC x c = true then posC r c + 1 else 0) = _;rw [if_pos hx]
      rw [e] at h h2 ⊢
      rw [if_pos hx,putC_at r c (by simpa using h) (by simpa [nth] using h2)]
      simp [nth]
    · have e : posC (x :: r) c = 0 := by show (if ltC x c = true then posC r c + 1 else 0) = _;rw [if_neg hx]
      rw [e] at h2 ⊢
      have h3 : ltC c x = false := by simpa [nth] using h2
      rw [if_neg hx,if_neg (by simp [h3])]
      simp [nth]
theorem putC_in : ∀ (l : List Ct) (c : Ct),(posC l c < l.length → ltC c (nth l (posC l c)) = true) → putC l c = l.take (posC l c) ++ [c] ++ l.drop (posC l c)
  | [],c,_ => rfl
  | x :: r,c,h2 => by
    rw [putC_cons]
    by_cases hx : ltC x c = true
    · have e : posC (x :: r) c = posC r c + 1 := by show (if ltC x c = true then posC r c + 1 else 0) = _;rw [if_pos hx]
      rw [e] at h2 ⊢
      rw [if_pos hx,putC_in r c (fun h => by simpa [nth] using h2 (by simpa using h))]
      simp
    · have e : posC (x :: r) c = 0 := by show (if ltC x c = true then posC r c + 1 else 0) = _;rw [if_neg hx]
      rw [e] at h2 ⊢
      have h3 : ltC c x = true := by simpa [nth] using h2 (by simp)
      rw [if_neg hx,if_pos h3];rfl
theorem putC_len {l : List Ct} {c : Ct} : (putC l c).length ≤ l.length + 1 := by
  have := fold_len (S:=[c]) (acc:=l)
  simpa using this
theorem ahead_lt (x y : Ct) : ahead x y = ltC x y := by
  have h := ltC_iff (x:=x) (y:=y)
  unfold ahead
  by_cases hp : x.pl = y.pl
  · rw [if_pos hp]
    cases hc : ltC x y
    · rw [ltC_no] at hc;simp;omega
    · rw [ltC_iff] at hc;simp;omega
  · rw [if_neg hp]
    cases hc : ltC x y
    · rw [ltC_no] at hc;simp;omega
    · rw [ltC_iff] at hc;simp;omega
theorem l_l7s (m A : List Ct) (c : Ct) (i : Nat) (hA : A.length < 2000000) : ∀ j : Nat,(j ≤ A.length) → ∀ s,normE 2 (some [1,6,7,8,9]) s = ⟨[(1,.lst false 0 (cts m)),(6,.ref 2 0 A.length),(7,.int .i64 i),(8,.ptr 3 0 []),(9,.int .i64 j)],[(2,⟨false,false,3,cts A,0⟩),(3,⟨true,false,3,[c.v],0⟩)],4⟩ →
 oc.loop 129 7 s = some (.exit 2,⟨[(1,.lst false 0 (cts m)),(6,.ref 2 0 A.length),(7,.int .i64 i),(8,.ptr 3 0 []),(9,.int .i64 (j + posC (A.drop j) c : Nat))],[(2,⟨false,false,3,cts A,0⟩),(3,⟨true,false,3,[c.v],0⟩)],4⟩) := by
 refine loop_ind (σ:=Nat) (fun j => A.length - j) _ (fun j => ⟨[(1,.lst false 0 (cts m)),(6,.ref 2 0 A.length),(7,.int .i64 i),(8,.ptr 3 0 []),(9,.int .i64 j)],[(2,⟨false,false,3,cts A,0⟩),(3,⟨true,false,3,[c.v],0⟩)],4⟩) _ ?_
 intro j hi ih s hs
 refine loop_s cd129 rfl rfl hs ?_
 refine wa_ (wa_ (wc_draw (y_ (m_ (h:=ax_ (h:=y_ (m_ (h:=ax_ (h:=y_ (le (h:=ax_ (h:=y_ (b_ (h:=ax_ (h:=y_ (m_ (h:=ax_ (h:=?_))))))))))))))))))
 refine gw_ (h1:=?_) (h2:=?_)
 rotate_right 1
 focus
  intro c1
  first
  | exact dn c1
  | (
   have d1 := c1;try simp at d1
   refine gd_ (h:=gd_ (h:=gd_ (h:=gd_ (h:=gd_ (h:=gd_ (h:=?_))))))
   )
 rotate_right 1
 focus
  intro c1
  first
  | exact dn c1
  | (
   have d1 := c1;try simp at d1
   have hj : j < A.length := (by simp at c1;omega);have hw := wrap_succ (i:=j) (by omega);obtain ⟨x,hx,e1,g1⟩ := cts_cut (l:=A) (i:=j) (by omega)
   refine g_ (h:=y_ (m_ (h:=ax_ (h:=g_ (h:=y_ (m_ (h:=ax_ (h:=g_ (h:=y_ (x_ (h:=ax_ (h:=g_ (h:=y_ (l_ (h:=ax_ (h:=g_ (h:=y_ (l_ (h:=ax_ (h:=g_ (h:=y_ (ca (hc:=e_ahead x c) (h:=ax_ (h:=?_))))))))))))))))))))))))
   )
 all_goals
  refine y_ (pk (h:=ax_ (h:=wo_nil (ed (h:=?_)))))
 all_goals first
 | (
  refine aft_normal ?_
  refine c_ (h1:=?_) (h2:=?_)
  rotate_right 1
  focus
   intro c2
   first
   | exact dn c2
   | (
    have d2 := c2;try simp at d2
    refine wc_exit (?_)
    )
  rotate_right 1
  focus
   intro c2
   first
   | exact dn c2
   | (
    have d2 := c2;try simp at d2
    refine wc_skip (?_)
    )
  )
 all_goals first
 | refine aft_exit ?_
 | (
  refine aft_normal ?_
  refine wc_block (wc_region (w_ (m_ (h:=w_ (b_ (h:=w_ (a_ (h:=wo_nil (e_ (h:=blk_normal (?_)))))))))))
  )
 all_goals first
 | (refine (ih (j + 1) (by omega) ?_ _ ?_).trans ?_;(focus (first | omega | (simp;done) | (simp;omega)));(focus (simp [normE,hw];done));(focus (rw [e1];simp only [posC];rw [if_pos (by rw [← ahead_lt];simpa using d2),show j + (posC (A.drop (j + 1)) c + 1) = j + 1 + posC (A.drop (j + 1)) c by omega])))
 | (apply end_leaf (ex:=(Ext.exit 2)) 2 (some [1,6,7,8,9]);(focus (simp [normE];rfl));(focus (first | (rw [List.drop_eq_nil_of_le (by simp at c1;omega)];rfl) | (rw [e1];simp only [posC];rw [if_neg (by rw [← ahead_lt];simp [d2])];rfl))))
theorem cut_tailQ {e : List (Nat × V)} {o : List (Nat × Ob)} {n N I q : Nat} {ob : Ob} {k : Nat} {a : Int} (ha : a = (I : Int)) (h0 : 0 < I) (hI : I < N) (ho : geta o q = some ob) (hs : ob.sz = k) : cutV ⟨e,o,n⟩ k (.ref q 0 N) a (N : Int) = some (.ref q I (N - I)) := by
  subst ha
  unfold cutV
  simp only [if_neg (show ¬ (I : Int) = 0 by omega),if_neg (show ¬ (I : Int) = (N : Int) by omega),ho,hs,if_true]
  simp
theorem cut_end {s : St} {N I q k : Nat} {a : Int} (ha : a = (I : Int)) (h0 : 0 < I) (hI : I = N) : cutV s k (.ref q 0 N) a (N : Int) = some (.lst false 0 []) := by
  subst ha hI
  unfold cutV
  simp only [if_neg (show ¬ (I : Int) = 0 by omega),if_true]
theorem cut_zero {s : St} {N I q k : Nat} {a : Int} (ha : a = (I : Int)) (h0 : I = 0) : cutV s k (.ref q 0 N) a (N : Int) = some (.ref q 0 N) := by
  subst ha h0
  simp [cutV]
theorem l_l7a (m : List Ct) (hm : m.length < 500000) : ∀ x : Nat × (List Ct),(x.1 ≤ m.length ∧ x.2.length < 500000 + x.1) → ∀ s,normE 2 (some [1,6,7]) s = ⟨[(1,.lst false 0 (cts m)),(6,.ref 2 0 x.2.length),(7,.int .i64 x.1)],[(2,⟨false,false,3,cts x.2,0⟩)],3⟩ →
 oc.loop 129 3 s = some (.exit 0,⟨[(6,.ref 2 0 ((m.drop x.1).foldl putC x.2).length)],[(2,⟨false,false,3,cts ((m.drop x.1).foldl putC x.2),0⟩)],3⟩) := by
 refine loop_ind (σ:=Nat × (List Ct)) (fun x => m.length - x.1) _ (fun x => ⟨[(1,.lst false 0 (cts m)),(6,.ref 2 0 x.2.length),(7,.int .i64 x.1)],[(2,⟨false,false,3,cts x.2,0⟩)],3⟩) _ ?_
 rintro ⟨i,A⟩ hi ih s hs
 simp only at hi
 refine loop_s cd129 rfl rfl hs ?_
 obtain ⟨hi1,hi2⟩ := hi
 refine wa_ (wa_ (wc_region (w_ (m_ (h:=w_ (m_ (h:=w_ (le (h:=w_ (b_ (h:=wo_nil (e_ (h:=aft_normal (?_))))))))))))))
 refine c_ (h1:=?_) (h2:=?_)
 rotate_right 1
 focus
  intro c1
  first
  | exact dn c1
  | (
   have d1 := c1;try simp at d1
   refine wc_exit (?_)
   )
 rotate_right 1
 focus
  intro c1
  first
  | exact dn c1
  | (
   have d1 := c1;try simp at d1
   have hj : i < m.length := (by simp at c1;omega);have hw := wrap_succ (i:=i) (by omega);obtain ⟨c,hx,e1,g1⟩ := cts_cut (l:=m) (i:=i) (by omega);have hpl := posC_le A c;have hpu := putC_len (l:=A) (c:=c);obtain ⟨p,hp⟩ : ∃ p,posC A c = p := ⟨_,rfl⟩;have hls := l_l7s m A c i (by omega) 0 (by omega);simp only [List.drop_zero,Nat.zero_add,hp] at hls
   refine wc_skip (?_)
   )
 all_goals first
 | refine aft_exit ?_
 | (
  refine aft_normal ?_
  refine wa_ (wc_block (wa_ (wc_region (w_ (m_ (h:=w_ (m_ (h:=w_ (x_ (h:=w_ (l_ (h:=w_ (al (h:=w0 (s_ (h:=wo_nil (e_ (h:=aft_normal (?_)))))))))))))))))))
  refine wa_ (wc_region (w_ (a_ (h:=wo_nil (e_ (h:=aft_normal (wa_ (wc_block (?_)))))))))
  refine wc_loop (hls _ (by simp [normE])) ?_
  refine blk_exit (aft_normal (wa_ (wa_ (wc_draw (y_ (m_ (h:=ax_ (h:=y_ (m_ (h:=ax_ (h:=y_ (le (h:=ax_ (h:=y_ (b_ (h:=ax_ (h:=y_ (m_ (h:=ax_ (h:=?_))))))))))))))))))))
  refine gw_ (h1:=?_) (h2:=?_)
  rotate_right 1
  focus
   intro c2
   first
   | exact dn c2
   | (
    have d2 := c2;try simp at d2
    refine gd_ (h:=gd_ (h:=gd_ (h:=gd_ (h:=gd_ (h:=gd_ (h:=gd_ (h:=?_)))))))
    )
  rotate_right 1
  focus
   intro c2
   first
   | exact dn c2
   | (
    have d2 := c2;try simp at d2
    have g2 : (cts A)[p]? = some (nth A p).v := cts_nth (by simp at c2;omega)
    refine g_ (h:=y_ (l_ (h:=ax_ (h:=g_ (h:=y_ (m_ (h:=ax_ (h:=g_ (h:=y_ (m_ (h:=ax_ (h:=g_ (h:=y_ (x_ (h:=ax_ (h:=g_ (h:=y_ (l_ (h:=ax_ (h:=g_ (h:=y_ (ca (hc:=e_ahead c (nth A p)) (h:=ax_ (h:=g_ (h:=y_ (u_ (h:=ax_ (h:=?_))))))))))))))))))))))))))))
    )
  all_goals
   refine y_ (pk (h:=ax_ (h:=wo_nil (ed (h:=?_)))))
  all_goals first
  | (
   refine aft_normal ?_
   refine c_ (h1:=?_) (h2:=?_)
   rotate_right 1
   focus
    intro c3
    first
    | exact dn c3
    | (
     have d3 := c3;try simp at d3
     have k1 : p < A.length → ltC c (nth A p) = true := (fun h => by first | (exfalso;simp at c2;omega) | simpa [ahead_lt] using d3);have k2 := putC_in A c (fun h => by rw [hp] at h ⊢;exact k1 h);rw [hp] at k2 hpl;have k9 : (A.drop p).take (A.length - p) = A.drop p := (by rw [List.take_of_length_le (by simp)]);have km : min p A.length = p := (by omega);have kl : 1 + A.length = A.length + 1 := Nat.add_comm ..;have kq : p + 1 + (A.length - p) = p + (A.length - p + 1) := (by omega);have kt : (A.take p ++ [c]).take (p + 1) = A.take p ++ [c] := List.take_of_length_le (by simp;omega);have ku : (A.take p).take p = A.take p := (by rw [List.take_take,Nat.min_self]);have kz : (A ++ [c]).take (A.length + 1) = A ++ [c] := List.take_of_length_le (by simp);rcases (show p = 0 ∨ (0 < p ∧ p < A.length) ∨ (0 < p ∧ p = A.length) by omega) with hp0 | hp0 | hp0
     all_goals
      refine wc_skip (?_)
     )
   rotate_right 1
   focus
    intro c3
    first
    | exact dn c3
    | (
     have d3 := c3;try simp at d3
     have k1 : ltC c (nth A p) = false := (by simpa [ahead_lt] using d3);have k2 := putC_at A c (by simp at c2;omega) (by rw [hp];exact k1);rw [hp] at k2
     refine wa_ (wc_draw (y_ (m_ (h:=ax_ (h:=y_ (m_ (h:=ax_ (h:=y_ (m_ (h:=ax_ (h:=y_ (m_ (h:=ax_ (h:=y_ (x_ (h:=ax_ (h:=y_ (f_ (h:=ax_ (h:=y_ (l_ (h:=ax_ (h:=y_ (f_ (h:=ax_ (h:=y_ (l_ (h:=ax_ (h:=y_ (b_ (h:=ax_ (h:=?_))))))))))))))))))))))))))))))))
     refine y_ (x_ (h:=ax_ (h:=y_ (f_ (h:=ax_ (h:=y0 (s_ (h:=ax_ (h:=wo_nil (ed (h:=aft_normal (wc_exit (?_)))))))))))))
     )
   )
  all_goals first
  | refine aft_exit ?_
  | (
   refine aft_normal ?_
   refine wc_draw (y_ (bs (h:=ax_ (h:=y_ (m_ (h:=ax_ (h:=y_ (m_ (h:=ax_ (h:=y_ (sl (h:=ax_ (h:=y_ (?_))))))))))))))
   refine ap (hel2:=if_pos (by omega)) (h:=?_)
   refine ax_ (h:=y_ (l_ (h:=ax_ (h:=y_ (?_)))))
   refine bs (hc:=⟨rfl,by first | decide | simp,rfl⟩) (h:=?_)
   refine ax_ (h:=y_ (ap (h:=ax_ (h:=y_ (m_ (h:=ax_ (h:=y_ (m_ (h:=ax_ (h:=y_ (?_)))))))))))
   first | refine sl (v:=.ref 2 p (A.length - p)) (hv:=cut_tailQ rfl (by omega) (by omega) rfl rfl) (h:=?_) | refine sl (v:=.lst false 0 []) (hv:=cut_end rfl (by omega) (by omega)) (h:=?_) | refine sl (v:=.ref 2 0 A.length) (hv:=cut_zero rfl (by omega)) (h:=?_)
   refine ax_ (h:=y_ (?_))
   first | refine ap (hel2:=if_pos (by omega)) (h:=?_) | refine ap (h:=?_)
   refine ax_ (h:=y_ (a_ (h:=ax_ (h:=wo_nil (ed (h:=?_))))))
   )
  all_goals first | refine blk_normal ?_ | refine blk_exit ?_
  all_goals first
  | (
   refine aft_normal ?_
   refine wc_region (w_ (m_ (h:=w_ (b_ (h:=w_ (a_ (h:=wo_nil (e_ (h:=?_)))))))))
   )
  )
 all_goals first
 | (apply end_leaf (ex:=(Ext.exit 0)) 2 (some [6]);(focus (simp [normE];rfl));(focus (rw [List.drop_eq_nil_of_le (by simp at c1;omega)];rfl)))
 | (refine (ih ((i + 1,putC A c)) (⟨by simp only;omega,by simp only;omega⟩) ?_ _ ?_).trans ?_;(focus (first | omega | (simp;done) | (simp;omega)));(focus (simp [normE,hw,hp,k2,addN];done));(focus (rw [e1];rfl)))
 | (refine (ih ((i + 1,putC A c)) (⟨by simp only;omega,by simp only;omega⟩) ?_ _ ?_).trans ?_;(focus (first | omega | (simp;done) | (simp;omega)));(focus (simp [normE,hw,hp,k2,k9,hp0,km,kl,kq,kt,kz,ku];done));(focus (rw [e1];rfl)))
def fltS : List Ct → List Ct → Bool × List Ct
  | [],o => (false,o)
  | c :: r,o => if okW c = false then (true,o) else if c.n = 0 then fltS r o else fltS r (o ++ [c])
theorem fltS_eq : ∀ (t o : List Ct),(fltS t o).1 = t.any badW ∧ (t.any badW = false → (fltS t o).2 = o ++ t.filter isUC)
  | [],o => by simp [fltS]
  | c :: t,o => by
    unfold fltS
    rw [List.any_cons,List.filter_cons]
    by_cases h : okW c = false
    · rw [if_pos h];simp [badW,h]
    · rw [if_neg h]
      have hb : badW c = false := by simpa [badW] using h
      by_cases h0 : c.n = 0
      · rw [if_pos h0,hb,if_neg (by simp [isUC,h0])];simpa using fltS_eq t o
      · rw [if_neg h0,hb,if_pos (by simp [isUC,h0])];simpa using fltS_eq t (o ++ [c])
theorem fltS_b {c : Ct} {r o : List Ct} (h : okW c = false) : fltS (c :: r) o = (true,o) := by rw [fltS,if_pos h]
theorem fltS_z {c : Ct} {r o : List Ct} (h : okW c = true) (h0 : c.n = 0) : fltS (c :: r) o = fltS r o := by rw [fltS,if_neg (by simp [h]),if_pos h0]
theorem fltS_n {c : Ct} {r o : List Ct} (h : okW c = true) (h0 : ¬ c.n = 0) : fltS (c :: r) o = fltS r (o ++ [c]) := by rw [fltS,if_neg (by simp [h]),if_neg h0]
theorem l_l7f (A : List Ct) (hA : A.length < 2000000) : ∀ x : Nat × (List Ct),(x.1 ≤ A.length ∧ x.2.length ≤ x.1) → ∀ s,normE 2 (some [6,10,11]) s = ⟨[(6,.ref 2 0 A.length),(10,.ref 3 0 x.2.length),(11,.int .i64 x.1)],[(2,⟨false,false,3,cts A,0⟩),(3,⟨false,false,3,cts x.2,0⟩)],4⟩ →
 oc.loop 129 14 s = some (if (fltS (A.drop x.1) x.2).1 = true then (.ret,⟨[(4,.lst true 3 []),(5,.int .i64 8),(10,.ref 2 0 (fltS (A.drop x.1) x.2).2.length)],[(2,⟨false,false,3,cts (fltS (A.drop x.1) x.2).2,0⟩)],3⟩) else (.exit 4,⟨[(10,.ref 2 0 (fltS (A.drop x.1) x.2).2.length)],[(2,⟨false,false,3,cts (fltS (A.drop x.1) x.2).2,0⟩)],3⟩)) := by
 refine loop_ind (σ:=Nat × (List Ct)) (fun x => A.length - x.1) _ (fun x => ⟨[(6,.ref 2 0 A.length),(10,.ref 3 0 x.2.length),(11,.int .i64 x.1)],[(2,⟨false,false,3,cts A,0⟩),(3,⟨false,false,3,cts x.2,0⟩)],4⟩) _ ?_
 rintro ⟨i,o⟩ hi ih s hs
 simp only at hi
 refine loop_s cd129 rfl rfl hs ?_
 obtain ⟨hi1,hi2⟩ := hi
 refine wa_ (wa_ (wc_region (w_ (m_ (h:=w_ (m_ (h:=w_ (le (h:=w_ (b_ (h:=wo_nil (e_ (h:=aft_normal (?_))))))))))))))
 refine c_ (h1:=?_) (h2:=?_)
 rotate_right 1
 focus
  intro c1
  first
  | exact dn c1
  | (
   have d1 := c1;try simp at d1
   refine wc_exit (?_)
   )
 rotate_right 1
 focus
  intro c1
  first
  | exact dn c1
  | (
   have d1 := c1;try simp at d1
   have hj : i < A.length := (by simp at c1;omega);have hw := wrap_succ (i:=i) (by omega);obtain ⟨c,hx,e1,g1⟩ := cts_cut (l:=A) (i:=i) (by omega)
   refine wc_skip (?_)
   )
 all_goals first
 | refine aft_exit ?_
 | (
  refine aft_normal ?_
  refine wa_ (wc_block (wa_ (wa_ (wc_region (w_ (m_ (h:=w_ (m_ (h:=w_ (x_ (h:=w_ (f_ (h:=w_ (l_ (h:=w_ (ca (hc:=e_l1Weight _) (h:=w_ (u_ (h:=?_)))))))))))))))))))
  refine wo_nil (e_ (h:=aft_normal (?_)))
  refine c_ (h1:=?_) (h2:=?_)
  rotate_right 1
  focus
   intro c2
   first
   | exact dn c2
   | (
    have d2 := c2;try simp at d2
    refine wc_skip (?_)
    )
  rotate_right 1
  focus
   intro c2
   first
   | exact dn c2
   | (
    have d2 := c2;try simp at d2
    refine wa_ (wc_region (w_ (aN (h:=w_ (a_ (h:=wo_nil (e_ (h:=aft_normal (wc_ret (?_))))))))))
    )
  all_goals first
  | refine aft_ret ?_
  | (
   refine aft_normal ?_
   refine wa_ (wc_region (w_ (m_ (h:=w_ (m_ (h:=w_ (x_ (h:=w_ (f_ (h:=w_ (l_ (h:=w_ (bE (h:=wo_nil (e_ (h:=aft_normal (?_)))))))))))))))))
   refine c_ (h1:=?_) (h2:=?_)
   rotate_right 1
   focus
    intro c3
    first
    | exact dn c3
    | (
     have d3 := c3;try simp at d3
     refine wc_skip (?_)
     )
   rotate_right 1
   focus
    intro c3
    first
    | exact dn c3
    | (
     have d3 := c3;try simp at d3
     refine wc_region (w_ (m_ (h:=w_ (m_ (h:=w_ (m_ (h:=w_ (x_ (h:=w_ (l_ (h:=w_ (?_))))))))))))
     refine bs (hc:=⟨rfl,by first | decide | simp,rfl⟩) (h:=?_)
     refine w_ (ap (h:=w_ (a_ (h:=wo_nil (e_ (h:=?_))))))
     )
   )
  all_goals first | refine blk_normal ?_ | refine blk_ret ?_
  all_goals first
  | refine aft_ret ?_
  | (
   refine aft_normal ?_
   refine wc_region (w_ (m_ (h:=w_ (b_ (h:=w_ (a_ (h:=wo_nil (e_ (h:=?_)))))))))
   )
  )
 all_goals first
 | (apply end_leaf (ex:=(Ext.exit 4)) 2 (some [4,5,10]);(focus (simp [normE];rfl));(focus (rw [List.drop_eq_nil_of_le (by simp at c1;omega)];rfl)))
 | (apply end_leaf (ex:=Ext.ret) 2 (some [4,5,10]);(focus (simp [normE];rfl));(focus (rw [e1,fltS_b (by simpa [okW] using d2)];rfl)))
 | (refine (ih ((i + 1,o)) (⟨by simp only;omega,by simp only;omega⟩) ?_ _ ?_).trans ?_;(focus (first | omega | (simp;done) | (simp;omega)));(focus (simp [normE,hw];done));(focus (rw [e1,fltS_z (by simpa [okW] using d2) (by simpa using d3)])))
 | (refine (ih ((i + 1,o ++ [c])) (⟨by simp only;omega,by simp;omega⟩) ?_ _ ?_).trans ?_;(focus (first | omega | (simp;done) | (simp;omega)));(focus (simp [normE,hw];done));(focus (rw [e1,fltS_n (by simpa [okW] using d2) (by simpa using d3)])))
theorem e_l7Add (l m : List Ct) (hl : l.length < 500000) (hm : m.length < 500000) : oc.call 129 [.lst false 0 (cts l),.lst false 0 (cts m)] = some (.tup [.lst true 3 (cts (addS (m.foldl putC l)).1),.int .i64 (addS (m.foldl putC l)).2],[]) := by
 refine fun_s rfl cd129 rfl rfl rfl (by simp;rfl) (by simp;rfl) ?_
 obtain ⟨T,hT⟩ : ∃ T,m.foldl putC l = T := ⟨_,rfl⟩
 have hTl : T.length < 1000000 := by have := fold_len (S:=m) (acc:=l);rw [hT] at this;omega
 have hl3 := l_l7a m hm (0,l) ⟨by simp,by simpa using hl⟩
 have hl14 := l_l7f T (by omega) (0,[]) ⟨by simp,by simp⟩
 obtain ⟨q1,q2⟩ := fltS_eq T []
 simp only [List.drop_zero,hT,List.nil_append] at hl3 hl14 q2
 obtain ⟨b,O,hbo⟩ : ∃ b O,fltS T [] = (b,O) := ⟨_,_,rfl⟩
 rw [hbo] at q1 q2 hl14
 simp only at q1 q2 hl14
 have ha : addS T = if b = true then ([],8) else if 200 < O.length then ([],2) else (O,0) := by cases b with | true => (unfold addS;rw [← q1];try rfl) | false => (unfold addS;rw [← q1,q2 q1.symm];try rfl)
 clear q1 q2 hbo
 refine wa_ (wc_region (w_ (aN (h:=w_ (a_ (h:=wo_nil (e_ (h:=aft_normal (wa_ (wc_region (w_ (bs (h:=w_ (m_ (h:=w_ (ap (h:=w_ (a_ (h:=?_)))))))))))))))))))
 refine wo_nil (e_ (h:=aft_normal (wa_ (wa_ (wc_region (w_ (a_ (h:=wo_nil (e_ (h:=aft_normal (wc_block (?_))))))))))))
 refine wc_loop (hl3 _ (by simp [normE])) ?_
 refine blk_exit (aft_normal (wa_ (wc_region (w_ (bs (h:=w_ (a_ (h:=wo_nil (e_ (h:=aft_normal (wa_ (wa_ (wc_region (w_ (a_ (h:=?_))))))))))))))))
 refine wo_nil (e_ (h:=aft_normal (wc_block (?_))))
 refine wc_loopI (hl14 _ (by simp [normE])) ?_ ?_
 rotate_right 1
 focus
  intro c1
  first
  | exact dn c1
  | (
   have d1 := c1;try simp at d1
   skip
   )
 rotate_right 1
 focus
  intro c1
  first
  | exact dn c1
  | (
   have d1 := c1;try simp at d1
   skip
   )
 all_goals first | refine blk_ret ?_ | refine blk_exit ?_
 all_goals first
 | refine aft_ret ?_
 | (
  refine aft_normal ?_
  refine wa_ (wa_ (wc_region (w_ (m_ (h:=w_ (le (h:=w_ (b_ (h:=wo_nil (e_ (h:=aft_normal (?_))))))))))))
  refine c_ (h1:=?_) (h2:=?_)
  rotate_right 1
  focus
   intro c2
   first
   | exact dn c2
   | (
    have d2 := c2;try simp at d2
    refine wc_skip (?_)
    )
  rotate_right 1
  focus
   intro c2
   first
   | exact dn c2
   | (
    have d2 := c2;try simp at d2
    refine wa_ (wc_region (w_ (aN (h:=w_ (a_ (h:=wo_nil (e_ (h:=aft_normal (wc_ret (?_))))))))))
    )
  all_goals first
  | refine aft_ret ?_
  | (
   refine aft_normal ?_
   refine wa_ (wc_region (w_ (m_ (h:=w_ (a_ (h:=w_ (a_ (h:=wo_nil (e_ (h:=aft_normal (wc_ret (?_))))))))))))
   )
  )
 all_goals (refine fin_ (hr:=(res_tmp rfl (res_tmp rfl res_nil))) (h:=?_);(focus (rw [hT,ha];first | (simp [*];done) | (rw [if_neg (by simp [*]),if_pos (by first | assumption | omega | (simp at *;omega))];simp;done) | (rw [if_neg (by simp [*]),if_neg (by first | assumption | omega | (simp at *;omega))];simp;done))))
def mkI (k : Int) (n : Nat) : List Int := (List.range n).map fun (i : Nat) => k + i
@[simp] theorem mkI_len {k : Int} {n : Nat} : (mkI k n).length = n := by simp [mkI]
theorem mkI_at {k : Int} {n i : Nat} (h : i < n) : (mkI k n)[i]? = some (k + i) := by simp [mkI,h]
theorem alikeL_map {α : Type} {f g : α → V} (hf : ∀ x y,(f x).alike (g y) = true) : ∀ {a b : List α},V.alikeL (a.map f) (b.map g) = decide (a.length = b.length)
  | [],[] => rfl
  | [],_ :: _ => by simp [V.alikeL]
  | _ :: _,[] => by simp [V.alikeL]
  | x :: a,y :: b => by simp only [List.map_cons,V.alikeL,hf,Bool.true_and,alikeL_map hf (a:=a) (b:=b),List.length_cons,Nat.add_right_cancel_iff]
@[simp] theorem alike_ints (a b : List Int) : V.alikeL (ints a) (ints b) = decide (a.length = b.length) := alikeL_map (fun _ _ => rfl)
theorem set_drop {α : Type} {r l : List α} {i : Nat} {x : α} (h : r.drop i = l.drop i) : (r.set i x).drop (i + 1) = l.drop (i + 1) := by
  rw [List.drop_set_of_lt (by omega),← List.drop_drop,h,List.drop_drop]
theorem wS_cut {α : Type} {f : α → Nat} {l : List α} {i : Nat} {x : α} (h : l[i]? = some x) : wS f (l.take (i + 1)) = wS f (l.take i) + f x := by
  induction l generalizing i with
  | nil => simp at h
  | cons y r ih =>
    cases i with
    | zero => simp at h;subst h;simp
    | succ i => simp at h;simp only [List.take_succ_cons,wS_cons];rw [ih h];omega
theorem wS_take {α : Type} {f : α → Nat} {l : List α} {i : Nat} : wS f (l.take i) ≤ wS f l := by
  induction l generalizing i with
  | nil => simp
  | cons y r ih =>
    cases i with
    | zero => simp
    | succ i => have := ih (i:=i);simp only [List.take_succ_cons,wS_cons];omega
theorem wS_len {α : Type} {f : α → Nat} (hf : ∀ x,1 ≤ f x) {l : List α} : l.length ≤ wS f l := by
  induction l with
  | nil => simp
  | cons y r ih => have := hf y;simp only [List.length_cons,wS_cons];omega
theorem l_mk_I (k : Int) (n : Nat) (hk : 0 ≤ k) (hb : k + n < 1000000000000000000) : ∀ x : Nat × (List Int),(x.1 ≤ n ∧ x.2.length = n ∧ x.2.take x.1 = (mkI k n).take x.1) → ∀ s,normE 2 (some [0,1,5]) s = ⟨[(0,.ref 0 0 n),(1,.int .i64 (k + x.1)),(5,.int .i64 x.1)],[(0,⟨false,true,1,ints x.2,0⟩)],2⟩ →
 oc.loop 82 2 s = some (.exit 0,⟨[(1,.int .i64 (k + n))],[(0,⟨false,true,1,ints (mkI k n),0⟩)],2⟩) := by
 refine loop_ind (σ:=Nat × (List Int)) (fun x => n - x.1) _ (fun x => ⟨[(0,.ref 0 0 n),(1,.int .i64 (k + x.1)),(5,.int .i64 x.1)],[(0,⟨false,true,1,ints x.2,0⟩)],2⟩) _ ?_
 rintro ⟨i,r⟩ hi ih s hs
 simp only at hi
 refine loop_s cd82 rfl rfl hs ?_
 obtain ⟨hi1,hi2,hi3⟩ := hi
 refine wa_ (wa_ (wc_region (w_ (m_ (h:=w_ (m_ (h:=w_ (le (h:=w_ (b_ (h:=wo_nil (e_ (h:=aft_normal (?_))))))))))))))
 refine c_ (h1:=?_) (h2:=?_)
 rotate_right 1
 focus
  intro c1
  simp at c1;obtain rfl : i = n := (by omega);obtain rfl : r = mkI k i := (by rw [List.take_of_length_le (by omega),List.take_of_length_le (by simp)] at hi3;exact hi3)
  refine wc_exit (?_)
 rotate_right 1
 focus
  intro c1
  simp at c1;have hw := wrap_succ (i:=i) (by omega);obtain ⟨y,hy⟩ : ∃ y,r[i]? = some y := (List.getElem?_eq_some_iff.2 ⟨by omega,rfl⟩ |> fun h => ⟨_,h⟩);have g2 : (ints r)[i]? = some (.int .i64 y) := (by simp [ints,hy]);have hw2 : IntKind.i64.wrap (k + (i : Int) + 1) = k + ((i + 1 : Nat) : Int) := (wrap_id (by omega) (by omega)).trans (by omega)
  refine wc_skip (?_)
 all_goals first
 | refine aft_exit ?_
 | (
  refine aft_normal ?_
  refine wa_ (wc_block (wa_ (wc_region (w_ (m_ (h:=w_ (m_ (h:=w_ (m_ (h:=w_ (x_ (h:=w0 (s_ (h:=wo_nil (e_ (h:=aft_normal (wc_region (?_))))))))))))))))))
  refine w_ (m_ (h:=w_ (b_ (h:=w_ (a_ (h:=wo_nil (e_ (h:=blk_normal (aft_normal (wc_region (w_ (m_ (h:=w_ (b_ (h:=w_ (a_ (h:=wo_nil (e_ (h:=?_)))))))))))))))))))
  )
 all_goals first
 | (refine (ih ((i + 1,r.set i (k + i))) (⟨by simp;omega,by simpa using hi2,set_take hi3 (by simpa using hi2) (mkI_at (by omega))⟩) ?_ _ ?_).trans ?_;(focus (first | omega | (simp;done) | (simp;omega)));(focus (simp [normE,hw,hw2];done));(focus (rfl)))
 | (apply end_leaf (ex:=(Ext.exit 0)) 2 (some [1]);(focus (simp [normE];rfl));(focus (simp)))
theorem mk_I (k : Int) (l : List Int) (hk : 0 ≤ k) (hb : k + (l.length : Nat) < 1000000000000000000) : oc.call 82 [.iol 1 (ints l),.int .i64 k] = some (.int .i64 (k + l.length),[.lst true 1 (ints (mkI k l.length))]) := by
 refine fun_s rfl cd82 rfl rfl rfl (by simp;rfl) (by simp;rfl) ?_
 refine wa_ (wc_region (w_ (a_ (h:=wo_nil (e_ (h:=aft_normal (wa_ (wa_ (wc_region (w_ (a_ (h:=wo_nil (e_ (h:=aft_normal (wc_block (?_))))))))))))))))
 refine wc_loop (l_mk_I k l.length hk hb (0,l) (by simp) _ (by simp [normE])) ?_
 refine blk_exit (aft_normal (wa_ (wc_region (w_ (m_ (h:=w_ (a_ (h:=wo_nil (e_ (h:=aft_normal (wc_ret (?_))))))))))))
 all_goals (refine fin_ (hr:=(res_tmp rfl res_nil)) (h:=?_);(focus (first | (simp_all;done) | (simp_all <;> omega) | (simp_all <;> split <;> simp_all <;> omega))))
def cn_Ct (x : Ct) : Nat := 1 + 1 + 1
theorem cn_Ct_pos (x : Ct) : 1 ≤ cn_Ct x := by unfold cn_Ct;omega
def cn_Cts (l : List Ct) : Nat := wS cn_Ct l
theorem cn_Cts_len {l : List Ct} : l.length ≤ cn_Cts l := wS_len cn_Ct_pos
def mk_Ct (k : Int) (x : Ct) : Ct := ⟨k,k + 1,k + 1 + 1⟩
@[simp] theorem mk_Ct_pl (k : Int) (x : Ct) : (mk_Ct k x).pl = k := rfl
@[simp] theorem mk_Ct_ep (k : Int) (x : Ct) : (mk_Ct k x).ep = k + 1 := rfl
@[simp] theorem mk_Ct_n (k : Int) (x : Ct) : (mk_Ct k x).n = k + 1 + 1 := rfl
def mk_Cts (k : Int) : List Ct → List Ct
  | [] => []
  | x :: r => mk_Ct k x :: mk_Cts (k + (cn_Ct x : Nat)) r
@[simp] theorem mk_Cts_len {k : Int} {l : List Ct} : (mk_Cts k l).length = l.length := by
  induction l generalizing k with
  | nil => rfl
  | cons x r ih => simp [mk_Cts,ih]
@[simp] theorem mk_Cts_take {k : Int} {l : List Ct} : (mk_Cts k l).take l.length = mk_Cts k l := List.take_of_length_le (by simp)
theorem mk_Cts_at {k : Int} {l : List Ct} {i : Nat} {x : Ct} (h : l[i]? = some x) : (mk_Cts k l)[i]? = some (mk_Ct (k + (cn_Cts (l.take i) : Nat)) x) := by
  induction l generalizing k i with
  | nil => simp at h
  | cons y r ih =>
    cases i with
    | zero => simp at h;subst h;simp [mk_Cts,cn_Cts]
    | succ i => simp at h;simp only [mk_Cts,List.getElem?_cons_succ,ih h,List.take_succ_cons,cn_Cts,wS_cons];congr 2;push_cast;omega
@[simp] theorem alike_cts (a b : List Ct) : V.alikeL (cts a) (cts b) = decide (a.length = b.length) := alikeL_map (fun _ _ => rfl)
theorem l_mk_Cts (k : Int) (l : List Ct) (hk : 0 ≤ k) (hb : k + (cn_Cts l : Nat) < 1000000000000000000) : ∀ x : Nat × (List Ct),(x.1 ≤ l.length ∧ x.2.length = l.length ∧ x.2.take x.1 = (mk_Cts k l).take x.1 ∧ x.2.drop x.1 = l.drop x.1) → ∀ s,normE 2 (some [0,1,5]) s = ⟨[(0,.ref 0 0 l.length),(1,.int .i64 (k + (cn_Cts (l.take x.1) : Nat))),(5,.int .i64 x.1)],[(0,⟨false,true,3,cts x.2,0⟩)],2⟩ →
 oc.loop 60 2 s = some (.exit 0,⟨[(1,.int .i64 (k + (cn_Cts l : Nat)))],[(0,⟨false,true,3,cts (mk_Cts k l),0⟩)],2⟩) := by
 refine loop_ind (σ:=Nat × (List Ct)) (fun x => l.length - x.1) _ (fun x => ⟨[(0,.ref 0 0 l.length),(1,.int .i64 (k + (cn_Cts (l.take x.1) : Nat))),(5,.int .i64 x.1)],[(0,⟨false,true,3,cts x.2,0⟩)],2⟩) _ ?_
 rintro ⟨i,r⟩ hi ih s hs
 simp only at hi
 refine loop_s cd60 rfl rfl hs ?_
 obtain ⟨hi1,hi2,hi3,hi4⟩ := hi
 have hlen := cn_Cts_len (l:=l)
 refine wa_ (wa_ (wc_region (w_ (m_ (h:=w_ (m_ (h:=w_ (le (h:=w_ (b_ (h:=wo_nil (e_ (h:=aft_normal (?_))))))))))))))
 refine c_ (h1:=?_) (h2:=?_)
 rotate_right 1
 focus
  intro c1
  simp at c1;obtain rfl : i = l.length := (by omega);obtain rfl : r = mk_Cts k l := (by rw [List.take_of_length_le (by omega),List.take_of_length_le (by simp)] at hi3;exact hi3)
  refine wc_exit (?_)
 rotate_right 1
 focus
  intro c1
  simp at c1;have hw := wrap_succ (i:=i) (by omega);obtain ⟨y,hx,_,_⟩ := cts_cut (l:=l) (i:=i) c1;have hy : r[i]? = some y := (by have := congrArg (fun q => q[0]?) hi4;simpa [hx] using this);have g2 : (cts r)[i]? = some (Ct.v (y)) := (by simp [cts,hy]);have hcut := wS_cut (f:=cn_Ct) hx;have hle := wS_take (f:=cn_Ct) (l:=l) (i:=i + 1);have hcy : cn_Ct y = 1 + 1 + 1 := rfl;change cn_Cts (l.take (i + 1)) = cn_Cts (l.take i) + cn_Ct y at hcut;change cn_Cts (l.take (i + 1)) ≤ cn_Cts l at hle;have hw0 : IntKind.i64.wrap (k + (cn_Cts (l.take i) : Nat) + 1) = k + (cn_Cts (l.take i) : Nat) + 1 := wrap_id (by omega) (by omega);have hw1 : IntKind.i64.wrap (k + (cn_Cts (l.take i) : Nat) + 1 + 1) = k + (cn_Cts (l.take i) : Nat) + 1 + 1 := wrap_id (by omega) (by omega);have hw2 : IntKind.i64.wrap (k + (cn_Cts (l.take i) : Nat) + 1 + 1 + 1) = k + ((cn_Cts (l.take (i + 1)) : Nat) : Int) := (by rw [hcut];exact (wrap_id (by omega) (by omega)).trans (by omega))
  refine wc_skip (?_)
 all_goals first
 | refine aft_exit ?_
 | (
  refine aft_normal ?_
  refine wa_ (wc_block (wa_ (wc_region (w_ (m_ (h:=w_ (m_ (h:=w_ (m_ (h:=w_ (x_ (h:=w_ (f_ (h:=w0 (s_ (h:=wo_nil (e_ (h:=aft_normal (?_)))))))))))))))))))
  refine wa_ (wc_region (w_ (m_ (h:=w_ (b_ (h:=w_ (a_ (h:=wo_nil (e_ (h:=aft_normal (wa_ (wc_region (w_ (m_ (h:=w_ (m_ (h:=w_ (m_ (h:=?_)))))))))))))))))))
  refine w_ (x_ (h:=w_ (f_ (h:=w0 (s_ (h:=wo_nil (e_ (h:=aft_normal (wa_ (wc_region (w_ (m_ (h:=w_ (b_ (h:=w_ (a_ (h:=wo_nil (e_ (h:=aft_normal (?_))))))))))))))))))))
  refine wa_ (wc_region (w_ (m_ (h:=w_ (m_ (h:=w_ (m_ (h:=w_ (x_ (h:=w_ (f_ (h:=w0 (s_ (h:=wo_nil (e_ (h:=aft_normal (wc_region (w_ (m_ (h:=?_))))))))))))))))))))
  refine w_ (b_ (h:=w_ (a_ (h:=wo_nil (e_ (h:=blk_normal (aft_normal (wc_region (w_ (m_ (h:=w_ (b_ (h:=w_ (a_ (h:=wo_nil (e_ (h:=?_)))))))))))))))))
  )
 all_goals first
 | (refine (ih ((i + 1,r.set i (mk_Ct (k + (cn_Cts (l.take i) : Nat)) y))) (⟨by simp;omega,by simpa using hi2,set_take hi3 (by simpa using hi2) (mk_Cts_at hx),set_drop hi4⟩) ?_ _ ?_).trans ?_;(focus (first | omega | (simp;done) | (simp;omega)));(focus (simp [normE,hw,hw0,hw1,hw2,mk_Ct];done));(focus (rfl)))
 | (apply end_leaf (ex:=(Ext.exit 0)) 2 (some [1]);(focus (simp [normE];rfl));(focus (simp)))
theorem mkf_Cts (k : Int) (l : List Ct) (hk : 0 ≤ k) (hb : k + (cn_Cts l : Nat) < 1000000000000000000) : oc.call 60 [.iol 3 (cts l),.int .i64 k] = some (.int .i64 (k + (cn_Cts l : Nat)),[.lst true 3 (cts (mk_Cts k l))]) := by
 refine fun_s rfl cd60 rfl rfl rfl (by simp;rfl) (by simp;rfl) ?_
 refine wa_ (wc_region (w_ (a_ (h:=wo_nil (e_ (h:=aft_normal (wa_ (wa_ (wc_region (w_ (a_ (h:=wo_nil (e_ (h:=aft_normal (wc_block (?_))))))))))))))))
 refine wc_loop (l_mk_Cts k l hk hb (0,l) (by simp) _ (by simp [normE,cn_Cts])) ?_
 refine blk_exit (aft_normal (wa_ (wc_region (w_ (m_ (h:=w_ (a_ (h:=wo_nil (e_ (h:=aft_normal (wc_ret (?_))))))))))))
 all_goals (refine fin_ (hr:=(res_tmp rfl res_nil)) (h:=?_);(focus (first | (simp_all;done) | (simp_all <;> omega) | (simp_all <;> split <;> simp_all <;> omega))))
theorem l_held_Cts (k : Int) (l : List Ct) (hk : 0 ≤ k) (hb : k + (cn_Cts l : Nat) < 1000000000000000000) : ∀ i : Nat,(i ≤ l.length) → ∀ s,normE 2 (some [0,1,5]) s = ⟨[(0,.lst false 0 (cts (mk_Cts k l))),(1,.int .i64 (k + (cn_Cts (l.take i) : Nat))),(5,.int .i64 i)],[],2⟩ →
 oc.loop 135 2 s = some (.exit 0,⟨[(1,.int .i64 (k + (cn_Cts l : Nat)))],[],2⟩) := by
 refine loop_ind (σ:=Nat) (fun i => l.length - i) _ (fun i => ⟨[(0,.lst false 0 (cts (mk_Cts k l))),(1,.int .i64 (k + (cn_Cts (l.take i) : Nat))),(5,.int .i64 i)],[],2⟩) _ ?_
 intro i hi ih s hs
 refine loop_s cd135 rfl rfl hs ?_
 have hlen := cn_Cts_len (l:=l)
 refine wa_ (wa_ (wc_region (w_ (m_ (h:=w_ (m_ (h:=w_ (le (h:=w_ (b_ (h:=wo_nil (e_ (h:=aft_normal (?_))))))))))))))
 refine c_ (h1:=?_) (h2:=?_)
 rotate_right 1
 focus
  intro c1
  first
  | exact dn c1
  | (
   have d1 := c1;try simp at d1
   obtain rfl : i = l.length := (by omega)
   refine wc_exit (?_)
   )
 rotate_right 1
 focus
  intro c1
  first
  | exact dn c1
  | (
   have d1 := c1;try simp at d1
   have hc1 : i < l.length := (by simpa using d1);have hw := wrap_succ (i:=i) (by omega);obtain ⟨y,hx,_,_⟩ := cts_cut (l:=l) (i:=i) hc1;have g2 : (cts (mk_Cts k l))[i]? = some (Ct.v (mk_Ct (k + (cn_Cts (l.take i) : Nat)) y)) := (by simp [cts,mk_Cts_at hx]);have hcut := wS_cut (f:=cn_Ct) hx;have hle := wS_take (f:=cn_Ct) (l:=l) (i:=i + 1);have hcy : cn_Ct y = 1 + 1 + 1 := rfl;change cn_Cts (l.take (i + 1)) = cn_Cts (l.take i) + cn_Ct y at hcut;change cn_Cts (l.take (i + 1)) ≤ cn_Cts l at hle;have hw0 : IntKind.i64.wrap (k + (cn_Cts (l.take i) : Nat) + 1) = k + (cn_Cts (l.take i) : Nat) + 1 := wrap_id (by omega) (by omega);have hw1 : IntKind.i64.wrap (k + (cn_Cts (l.take i) : Nat) + 1 + 1) = k + (cn_Cts (l.take i) : Nat) + 1 + 1 := wrap_id (by omega) (by omega);have hw2 : IntKind.i64.wrap (k + (cn_Cts (l.take i) : Nat) + 1 + 1 + 1) = k + ((cn_Cts (l.take (i + 1)) : Nat) : Int) := (by rw [hcut];exact (wrap_id (by omega) (by omega)).trans (by omega))
   refine wc_skip (?_)
   )
 all_goals first
 | refine aft_exit ?_
 | (
  refine aft_normal ?_
  refine wa_ (wc_block (wa_ (wa_ (wc_region (w_ (m_ (h:=w_ (m_ (h:=w_ (x_ (h:=w_ (f_ (h:=w_ (l_ (h:=w_ (m_ (h:=w_ (bE (h:=?_)))))))))))))))))))
  refine wo_nil (e_ (h:=aft_normal (?_)))
  refine c_ (h1:=?_) (h2:=?_)
  rotate_right 1
  focus
   intro c2
   first
   | exact dn c2
   | (
    have d2 := c2;try simp at d2
    refine wc_skip (?_)
    )
  rotate_right 1
  focus
   intro c2
   first
   | exact dn c2
   | (
    have d2 := c2;try simp at d2
    refine wa_ (wc_region (w_ (a_ (h:=wo_nil (e_ (h:=aft_normal (wc_ret (?_))))))))
    )
  all_goals first
  | refine aft_ret ?_
  | (
   refine aft_normal ?_
   refine wa_ (wc_region (w_ (m_ (h:=w_ (b_ (h:=w_ (a_ (h:=wo_nil (e_ (h:=aft_normal (wa_ (wa_ (wc_region (w_ (m_ (h:=w_ (m_ (h:=?_))))))))))))))))))
   refine w_ (x_ (h:=w_ (f_ (h:=w_ (l_ (h:=w_ (m_ (h:=w_ (bE (h:=wo_nil (e_ (h:=aft_normal (?_)))))))))))))
   refine c_ (h1:=?_) (h2:=?_)
   rotate_right 1
   focus
    intro c3
    first
    | exact dn c3
    | (
     have d3 := c3;try simp at d3
     refine wc_skip (?_)
     )
   rotate_right 1
   focus
    intro c3
    first
    | exact dn c3
    | (
     have d3 := c3;try simp at d3
     refine wa_ (wc_region (w_ (a_ (h:=wo_nil (e_ (h:=aft_normal (wc_ret (?_))))))))
     )
   all_goals first
   | refine aft_ret ?_
   | (
    refine aft_normal ?_
    refine wa_ (wc_region (w_ (m_ (h:=w_ (b_ (h:=w_ (a_ (h:=wo_nil (e_ (h:=aft_normal (wa_ (wa_ (wc_region (w_ (m_ (h:=w_ (m_ (h:=?_))))))))))))))))))
    refine w_ (x_ (h:=w_ (f_ (h:=w_ (l_ (h:=w_ (m_ (h:=w_ (bE (h:=wo_nil (e_ (h:=aft_normal (?_)))))))))))))
    refine c_ (h1:=?_) (h2:=?_)
    rotate_right 1
    focus
     intro c4
     first
     | exact dn c4
     | (
      have d4 := c4;try simp at d4
      refine wc_skip (?_)
      )
    rotate_right 1
    focus
     intro c4
     first
     | exact dn c4
     | (
      have d4 := c4;try simp at d4
      refine wa_ (wc_region (w_ (a_ (h:=wo_nil (e_ (h:=aft_normal (wc_ret (?_))))))))
      )
    all_goals first
    | refine aft_ret ?_
    | (
     refine aft_normal ?_
     refine wc_region (w_ (m_ (h:=w_ (b_ (h:=w_ (a_ (h:=wo_nil (e_ (h:=?_)))))))))
     )
    )
   )
  all_goals first | refine blk_normal ?_ | refine blk_ret ?_
  all_goals first
  | refine aft_ret ?_
  | (
   refine aft_normal ?_
   refine wc_region (w_ (m_ (h:=w_ (b_ (h:=w_ (a_ (h:=wo_nil (e_ (h:=?_)))))))))
   )
  )
 all_goals first
 | (refine (ih (i + 1) (by omega) ?_ _ ?_).trans ?_;(focus (first | omega | (simp;done) | (simp;omega)));(focus (simp [normE,hw,hw0,hw1,hw2];done));(focus (rfl)))
 | (apply end_leaf (ex:=(Ext.exit 0)) 2 (some [1,4]);(focus (simp [normE];rfl));(focus (simp)))
 | (apply end_leaf (ex:=Ext.ret) 2 (some [1,4]);(focus (simp [normE];rfl));(focus (exfalso;clear ih hs hw;simp only [hw0,hw1] at *;simp at *)))
theorem held_Cts (k : Int) (l : List Ct) (hk : 0 ≤ k) (hb : k + (cn_Cts l : Nat) < 1000000000000000000) : oc.call 135 [.lst false 0 (cts (mk_Cts k l)),.int .i64 k] = some (.int .i64 (k + (cn_Cts l : Nat)),[]) := by
 refine fun_s rfl cd135 rfl rfl rfl (by simp;rfl) (by simp;rfl) ?_
 refine wa_ (wc_region (w_ (a_ (h:=wo_nil (e_ (h:=aft_normal (wa_ (wa_ (wc_region (w_ (a_ (h:=wo_nil (e_ (h:=aft_normal (wc_block (?_))))))))))))))))
 refine wc_loop (l_held_Cts k l hk hb 0 (by omega) _ (by simp [normE,cn_Cts])) ?_
 first | refine blk_ret ?_ | refine blk_exit ?_
 all_goals first
 | refine aft_ret ?_
 | (
  refine aft_normal ?_
  refine wa_ (wc_region (w_ (m_ (h:=w_ (a_ (h:=wo_nil (e_ (h:=aft_normal (wc_ret (?_))))))))))
  )
 all_goals (refine fin_ (hr:=(res_tmp rfl res_nil)) (h:=?_);(focus (first | (simp_all;done) | (simp_all <;> omega) | (simp_all <;> split <;> simp_all <;> omega))))
def cn_Nd (x : Nd) : Nat := 1 + 1 + 1 + 1 + 1 + 1 + x.cells.length
theorem cn_Nd_pos (x : Nd) : 1 ≤ cn_Nd x := by unfold cn_Nd;omega
def cn_Nds (l : List Nd) : Nat := wS cn_Nd l
theorem cn_Nds_len {l : List Nd} : l.length ≤ cn_Nds l := wS_len cn_Nd_pos
def mk_Nd (k : Int) (x : Nd) : Nd := ⟨k,k + 1,k + 1 + 1,k + 1 + 1 + 1,k + 1 + 1 + 1 + 1,k + 1 + 1 + 1 + 1 + 1,mkI (k + 1 + 1 + 1 + 1 + 1 + 1) x.cells.length⟩
@[simp] theorem mk_Nd_op (k : Int) (x : Nd) : (mk_Nd k x).op = k := rfl
@[simp] theorem mk_Nd_a (k : Int) (x : Nd) : (mk_Nd k x).a = k + 1 := rfl
@[simp] theorem mk_Nd_b (k : Int) (x : Nd) : (mk_Nd k x).b = k + 1 + 1 := rfl
@[simp] theorem mk_Nd_col (k : Int) (x : Nd) : (mk_Nd k x).col = k + 1 + 1 + 1 := rfl
@[simp] theorem mk_Nd_test (k : Int) (x : Nd) : (mk_Nd k x).test = k + 1 + 1 + 1 + 1 := rfl
@[simp] theorem mk_Nd_value (k : Int) (x : Nd) : (mk_Nd k x).value = k + 1 + 1 + 1 + 1 + 1 := rfl
@[simp] theorem mk_Nd_cells (k : Int) (x : Nd) : (mk_Nd k x).cells = mkI (k + 1 + 1 + 1 + 1 + 1 + 1) x.cells.length := rfl
def mk_Nds (k : Int) : List Nd → List Nd
  | [] => []
  | x :: r => mk_Nd k x :: mk_Nds (k + (cn_Nd x : Nat)) r
@[simp] theorem mk_Nds_len {k : Int} {l : List Nd} : (mk_Nds k l).length = l.length := by
  induction l generalizing k with
  | nil => rfl
  | cons x r ih => simp [mk_Nds,ih]
@[simp] theorem mk_Nds_take {k : Int} {l : List Nd} : (mk_Nds k l).take l.length = mk_Nds k l := List.take_of_length_le (by simp)
theorem mk_Nds_at {k : Int} {l : List Nd} {i : Nat} {x : Nd} (h : l[i]? = some x) : (mk_Nds k l)[i]? = some (mk_Nd (k + (cn_Nds (l.take i) : Nat)) x) := by
  induction l generalizing k i with
  | nil => simp at h
  | cons y r ih =>
    cases i with
    | zero => simp at h;subst h;simp [mk_Nds,cn_Nds]
    | succ i => simp at h;simp only [mk_Nds,List.getElem?_cons_succ,ih h,List.take_succ_cons,cn_Nds,wS_cons];congr 2;push_cast;omega
@[simp] theorem alike_nds (t u : Bool) (s z : Nat) (a b : List Nd) : V.alikeL (nds t s a) (nds u z b) = decide (a.length = b.length) := alikeL_map (fun _ _ => rfl)
theorem l_mk_Nds (k : Int) (l : List Nd) (hk : 0 ≤ k) (hb : k + (cn_Nds l : Nat) < 1000000000000000000) : ∀ x : Nat × (List Nd),(x.1 ≤ l.length ∧ x.2.length = l.length ∧ x.2.take x.1 = (mk_Nds k l).take x.1 ∧ x.2.drop x.1 = l.drop x.1) → ∀ s,normE 2 (some [0,1,5]) s = ⟨[(0,.ref 0 0 l.length),(1,.int .i64 (k + (cn_Nds (l.take x.1) : Nat))),(5,.int .i64 x.1)],[(0,⟨false,true,7,nds true 1 x.2,0⟩)],2⟩ →
 oc.loop 48 2 s = some (.exit 0,⟨[(1,.int .i64 (k + (cn_Nds l : Nat)))],[(0,⟨false,true,7,nds true 1 (mk_Nds k l),0⟩)],2⟩) := by
 refine loop_ind (σ:=Nat × (List Nd)) (fun x => l.length - x.1) _ (fun x => ⟨[(0,.ref 0 0 l.length),(1,.int .i64 (k + (cn_Nds (l.take x.1) : Nat))),(5,.int .i64 x.1)],[(0,⟨false,true,7,nds true 1 x.2,0⟩)],2⟩) _ ?_
 rintro ⟨i,r⟩ hi ih s hs
 simp only at hi
 refine loop_s cd48 rfl rfl hs ?_
 obtain ⟨hi1,hi2,hi3,hi4⟩ := hi
 have hlen := cn_Nds_len (l:=l)
 refine wa_ (wa_ (wc_region (w_ (m_ (h:=w_ (m_ (h:=w_ (le (h:=w_ (b_ (h:=wo_nil (e_ (h:=aft_normal (?_))))))))))))))
 refine c_ (h1:=?_) (h2:=?_)
 rotate_right 1
 focus
  intro c1
  simp at c1;obtain rfl : i = l.length := (by omega);obtain rfl : r = mk_Nds k l := (by rw [List.take_of_length_le (by omega),List.take_of_length_le (by simp)] at hi3;exact hi3)
  refine wc_exit (?_)
 rotate_right 1
 focus
  intro c1
  simp at c1;have hw := wrap_succ (i:=i) (by omega);obtain ⟨y,hx,_,_⟩ := nds_cut (t:=false) (s:=0) (l:=l) (i:=i) c1;have hy : r[i]? = some y := (by have := congrArg (fun q => q[0]?) hi4;simpa [hx] using this);have g2 : (nds true 1 r)[i]? = some (Nd.v true 1 (y)) := (by simp [nds,hy]);have hcut := wS_cut (f:=cn_Nd) hx;have hle := wS_take (f:=cn_Nd) (l:=l) (i:=i + 1);have hcy : cn_Nd y = 1 + 1 + 1 + 1 + 1 + 1 + y.cells.length := rfl;change cn_Nds (l.take (i + 1)) = cn_Nds (l.take i) + cn_Nd y at hcut;change cn_Nds (l.take (i + 1)) ≤ cn_Nds l at hle;have hw0 : IntKind.i64.wrap (k + (cn_Nds (l.take i) : Nat) + 1) = k + (cn_Nds (l.take i) : Nat) + 1 := wrap_id (by omega) (by omega);have hw1 : IntKind.i64.wrap (k + (cn_Nds (l.take i) : Nat) + 1 + 1) = k + (cn_Nds (l.take i) : Nat) + 1 + 1 := wrap_id (by omega) (by omega);have hw2 : IntKind.i64.wrap (k + (cn_Nds (l.take i) : Nat) + 1 + 1 + 1) = k + (cn_Nds (l.take i) : Nat) + 1 + 1 + 1 := wrap_id (by omega) (by omega);have hw3 : IntKind.i64.wrap (k + (cn_Nds (l.take i) : Nat) + 1 + 1 + 1 + 1) = k + (cn_Nds (l.take i) : Nat) + 1 + 1 + 1 + 1 := wrap_id (by omega) (by omega);have hw4 : IntKind.i64.wrap (k + (cn_Nds (l.take i) : Nat) + 1 + 1 + 1 + 1 + 1) = k + (cn_Nds (l.take i) : Nat) + 1 + 1 + 1 + 1 + 1 := wrap_id (by omega) (by omega);have hw5 : IntKind.i64.wrap (k + (cn_Nds (l.take i) : Nat) + 1 + 1 + 1 + 1 + 1 + 1) = k + (cn_Nds (l.take i) : Nat) + 1 + 1 + 1 + 1 + 1 + 1 := wrap_id (by omega) (by omega);have hw6 : k + (cn_Nds (l.take i) : Nat) + 1 + 1 + 1 + 1 + 1 + 1 + (y.cells.length : Nat) = k + ((cn_Nds (l.take (i + 1)) : Nat) : Int) := (by rw [hcut];omega)
  refine wc_skip (?_)
 all_goals first
 | refine aft_exit ?_
 | (
  refine aft_normal ?_
  refine wa_ (wc_block (wa_ (wc_region (w_ (m_ (h:=w_ (m_ (h:=w_ (m_ (h:=w_ (x_ (h:=w_ (f_ (h:=w0 (s_ (h:=wo_nil (e_ (h:=aft_normal (?_)))))))))))))))))))
  refine wa_ (wc_region (w_ (m_ (h:=w_ (b_ (h:=w_ (a_ (h:=wo_nil (e_ (h:=aft_normal (wa_ (wc_region (w_ (m_ (h:=w_ (m_ (h:=w_ (m_ (h:=?_)))))))))))))))))))
  refine w_ (x_ (h:=w_ (f_ (h:=w0 (s_ (h:=wo_nil (e_ (h:=aft_normal (wa_ (wc_region (w_ (m_ (h:=w_ (b_ (h:=w_ (a_ (h:=wo_nil (e_ (h:=aft_normal (?_))))))))))))))))))))
  refine wa_ (wc_region (w_ (m_ (h:=w_ (m_ (h:=w_ (m_ (h:=w_ (x_ (h:=w_ (f_ (h:=w0 (s_ (h:=wo_nil (e_ (h:=aft_normal (wa_ (wc_region (?_)))))))))))))))))))
  refine w_ (m_ (h:=w_ (b_ (h:=w_ (a_ (h:=wo_nil (e_ (h:=aft_normal (wa_ (wc_region (w_ (m_ (h:=w_ (m_ (h:=w_ (m_ (h:=w_ (x_ (h:=w_ (f_ (h:=?_)))))))))))))))))))))
  refine w0 (s_ (h:=wo_nil (e_ (h:=aft_normal (wa_ (wc_region (w_ (m_ (h:=w_ (b_ (h:=w_ (a_ (h:=wo_nil (e_ (h:=aft_normal (wa_ (wc_region (?_))))))))))))))))))
  refine w_ (m_ (h:=w_ (m_ (h:=w_ (m_ (h:=w_ (x_ (h:=w_ (f_ (h:=w0 (s_ (h:=wo_nil (e_ (h:=aft_normal (wa_ (wc_region (w_ (m_ (h:=w_ (b_ (h:=?_)))))))))))))))))))))
  refine w_ (a_ (h:=wo_nil (e_ (h:=aft_normal (wa_ (wc_region (w_ (m_ (h:=w_ (m_ (h:=w_ (m_ (h:=w_ (x_ (h:=w_ (f_ (h:=w0 (s_ (h:=wo_nil (e_ (h:=?_)))))))))))))))))))))
  refine aft_normal (wa_ (wc_region (w_ (m_ (h:=w_ (b_ (h:=w_ (a_ (h:=wo_nil (e_ (h:=aft_normal (wc_region (w_ (m_ (h:=w_ (m_ (h:=w_ (x_ (h:=?_)))))))))))))))))))
  refine w_ (f_ (h:=w_ (l_ (h:=w_ (m_ (h:=?_))))))
  first | refine ip (hc:=(by (try simp only [hw0,hw1,hw2,hw3,hw4,hw5,hw6]);exact mk_I (k + (cn_Nds (l.take i) : Nat) + 1 + 1 + 1 + 1 + 1 + 1) y.cells (by omega) (by omega))) (h:=?_) | refine iq (hc:=(by (try simp only [hw0,hw1,hw2,hw3,hw4,hw5,hw6]);exact mk_I (k + (cn_Nds (l.take i) : Nat) + 1 + 1 + 1 + 1 + 1 + 1) y.cells (by omega) (by omega))) (h:=?_)
  refine w_ (a_ (h:=wo_nil (e_ (h:=blk_normal (aft_normal (wc_region (w_ (m_ (h:=w_ (b_ (h:=w_ (a_ (h:=wo_nil (e_ (h:=?_)))))))))))))))
  )
 all_goals first
 | (refine (ih ((i + 1,r.set i (mk_Nd (k + (cn_Nds (l.take i) : Nat)) y))) (⟨by simp;omega,by simpa using hi2,set_take hi3 (by simpa using hi2) (mk_Nds_at hx),set_drop hi4⟩) ?_ _ ?_).trans ?_;(focus (first | omega | (simp;done) | (simp;omega)));(focus (simp [normE,hw,hw0,hw1,hw2,hw3,hw4,hw5,hw6,mk_Nd];done));(focus (rfl)))
 | (apply end_leaf (ex:=(Ext.exit 0)) 2 (some [1]);(focus (simp [normE];rfl));(focus (simp)))
theorem mkf_Nds (k : Int) (l : List Nd) (hk : 0 ≤ k) (hb : k + (cn_Nds l : Nat) < 1000000000000000000) : oc.call 48 [.iol 7 (nds true 1 l),.int .i64 k] = some (.int .i64 (k + (cn_Nds l : Nat)),[.lst true 7 (nds true 1 (mk_Nds k l))]) := by
 refine fun_s rfl cd48 rfl rfl rfl (by simp;rfl) (by simp;rfl) ?_
 refine wa_ (wc_region (w_ (a_ (h:=wo_nil (e_ (h:=aft_normal (wa_ (wa_ (wc_region (w_ (a_ (h:=wo_nil (e_ (h:=aft_normal (wc_block (?_))))))))))))))))
 refine wc_loop (l_mk_Nds k l hk hb (0,l) (by simp) _ (by simp [normE,cn_Nds])) ?_
 refine blk_exit (aft_normal (wa_ (wc_region (w_ (m_ (h:=w_ (a_ (h:=wo_nil (e_ (h:=aft_normal (wc_ret (?_))))))))))))
 all_goals (refine fin_ (hr:=(res_tmp rfl res_nil)) (h:=?_);(focus (first | (simp_all;done) | (simp_all <;> omega) | (simp_all <;> split <;> simp_all <;> omega))))
def cn_Et (x : Et) : Nat := x.row.length + 1
def cn_Ets (l : List Et) : Nat := wS cn_Et l
def mk_Et (k : Int) (x : Et) : Et := ⟨mkI (k) x.row.length,k + (x.row.length : Nat)⟩
@[simp] theorem mk_Et_row (k : Int) (x : Et) : (mk_Et k x).row = mkI (k) x.row.length := rfl
@[simp] theorem mk_Et_w (k : Int) (x : Et) : (mk_Et k x).w = k + (x.row.length : Nat) := rfl
def mk_Ets (k : Int) : List Et → List Et
  | [] => []
  | x :: r => mk_Et k x :: mk_Ets (k + (cn_Et x : Nat)) r
@[simp] theorem mk_Ets_len {k : Int} {l : List Et} : (mk_Ets k l).length = l.length := by
  induction l generalizing k with
  | nil => rfl
  | cons x r ih => simp [mk_Ets,ih]
@[simp] theorem mk_Ets_take {k : Int} {l : List Et} : (mk_Ets k l).take l.length = mk_Ets k l := List.take_of_length_le (by simp)
@[simp] theorem alike_ets (t u : Bool) (a b : List Et) : V.alikeL (ets t a) (ets u b) = decide (a.length = b.length) := alikeL_map (fun _ _ => rfl)
def cn_Fr (x : Fr) : Nat := 1 + 1 + 1 + 1 + cn_Ets x.set + cn_Cts x.news
def cn_Frs (l : List Fr) : Nat := wS cn_Fr l
def mk_Fr (k : Int) (x : Fr) : Fr := ⟨k,k + 1,k + 1 + 1,k + 1 + 1 + 1,mk_Ets (k + 1 + 1 + 1 + 1) x.set,mk_Cts (k + 1 + 1 + 1 + 1 + (cn_Ets x.set : Nat)) x.news⟩
@[simp] theorem mk_Fr_kind (k : Int) (x : Fr) : (mk_Fr k x).kind = k := rfl
@[simp] theorem mk_Fr_node (k : Int) (x : Fr) : (mk_Fr k x).node = k + 1 := rfl
@[simp] theorem mk_Fr_side (k : Int) (x : Fr) : (mk_Fr k x).side = k + 1 + 1 := rfl
@[simp] theorem mk_Fr_ep (k : Int) (x : Fr) : (mk_Fr k x).ep = k + 1 + 1 + 1 := rfl
@[simp] theorem mk_Fr_set (k : Int) (x : Fr) : (mk_Fr k x).set = mk_Ets (k + 1 + 1 + 1 + 1) x.set := rfl
@[simp] theorem mk_Fr_news (k : Int) (x : Fr) : (mk_Fr k x).news = mk_Cts (k + 1 + 1 + 1 + 1 + (cn_Ets x.set : Nat)) x.news := rfl
def mk_Frs (k : Int) : List Fr → List Fr
  | [] => []
  | x :: r => mk_Fr k x :: mk_Frs (k + (cn_Fr x : Nat)) r
@[simp] theorem mk_Frs_len {k : Int} {l : List Fr} : (mk_Frs k l).length = l.length := by
  induction l generalizing k with
  | nil => rfl
  | cons x r ih => simp [mk_Frs,ih]
@[simp] theorem mk_Frs_take {k : Int} {l : List Fr} : (mk_Frs k l).take l.length = mk_Frs k l := List.take_of_length_le (by simp)
@[simp] theorem alike_frs (t u : Bool) (a b : List Fr) : V.alikeL (frs t a) (frs u b) = decide (a.length = b.length) := alikeL_map (fun _ _ => rfl)
def cn_Bt (x : Bt) : Nat := 1 + 1 + cn_Ets x.set
def cn_Bts (l : List Bt) : Nat := wS cn_Bt l
def mk_Bt (k : Int) (x : Bt) : Bt := ⟨k,k + 1,mk_Ets (k + 1 + 1) x.set⟩
@[simp] theorem mk_Bt_side (k : Int) (x : Bt) : (mk_Bt k x).side = k := rfl
@[simp] theorem mk_Bt_ep (k : Int) (x : Bt) : (mk_Bt k x).ep = k + 1 := rfl
@[simp] theorem mk_Bt_set (k : Int) (x : Bt) : (mk_Bt k x).set = mk_Ets (k + 1 + 1) x.set := rfl
def mk_Bts (k : Int) : List Bt → List Bt
  | [] => []
  | x :: r => mk_Bt k x :: mk_Bts (k + (cn_Bt x : Nat)) r
@[simp] theorem mk_Bts_len {k : Int} {l : List Bt} : (mk_Bts k l).length = l.length := by
  induction l generalizing k with
  | nil => rfl
  | cons x r ih => simp [mk_Bts,ih]
@[simp] theorem mk_Bts_take {k : Int} {l : List Bt} : (mk_Bts k l).take l.length = mk_Bts k l := List.take_of_length_le (by simp)
@[simp] theorem alike_bts (t u : Bool) (a b : List Bt) : V.alikeL (bts t a) (bts u b) = decide (a.length = b.length) := alikeL_map (fun _ _ => rfl)
def cn_Hd (x : Hd) : Nat := cn_Ets x.oldA + cn_Ets x.oldB + cn_Bts x.waits + 1
def cn_Hds (l : List Hd) : Nat := wS cn_Hd l
def mk_Hd (k : Int) (x : Hd) : Hd := ⟨mk_Ets (k) x.oldA,mk_Ets (k + (cn_Ets x.oldA : Nat)) x.oldB,mk_Bts (k + (cn_Ets x.oldA : Nat) + (cn_Ets x.oldB : Nat)) x.waits,k + (cn_Ets x.oldA : Nat) + (cn_Ets x.oldB : Nat) + (cn_Bts x.waits : Nat)⟩
@[simp] theorem mk_Hd_oldA (k : Int) (x : Hd) : (mk_Hd k x).oldA = mk_Ets (k) x.oldA := rfl
@[simp] theorem mk_Hd_oldB (k : Int) (x : Hd) : (mk_Hd k x).oldB = mk_Ets (k + (cn_Ets x.oldA : Nat)) x.oldB := rfl
@[simp] theorem mk_Hd_waits (k : Int) (x : Hd) : (mk_Hd k x).waits = mk_Bts (k + (cn_Ets x.oldA : Nat) + (cn_Ets x.oldB : Nat)) x.waits := rfl
@[simp] theorem mk_Hd_told (k : Int) (x : Hd) : (mk_Hd k x).told = k + (cn_Ets x.oldA : Nat) + (cn_Ets x.oldB : Nat) + (cn_Bts x.waits : Nat) := rfl
def mk_Hds (k : Int) : List Hd → List Hd
  | [] => []
  | x :: r => mk_Hd k x :: mk_Hds (k + (cn_Hd x : Nat)) r
@[simp] theorem mk_Hds_len {k : Int} {l : List Hd} : (mk_Hds k l).length = l.length := by
  induction l generalizing k with
  | nil => rfl
  | cons x r ih => simp [mk_Hds,ih]
@[simp] theorem mk_Hds_take {k : Int} {l : List Hd} : (mk_Hds k l).take l.length = mk_Hds k l := List.take_of_length_le (by simp)
@[simp] theorem alike_hds (t u : Bool) (a b : List Hd) : V.alikeL (hds t a) (hds u b) = decide (a.length = b.length) := alikeL_map (fun _ _ => rfl)
def cn_Rl (x : Rl) : Nat := 1 + 1 + cn_Ets x.set
def cn_Rls (l : List Rl) : Nat := wS cn_Rl l
def mk_Rl (k : Int) (x : Rl) : Rl := ⟨k,k + 1,mk_Ets (k + 1 + 1) x.set⟩
@[simp] theorem mk_Rl_node (k : Int) (x : Rl) : (mk_Rl k x).node = k := rfl
@[simp] theorem mk_Rl_ep (k : Int) (x : Rl) : (mk_Rl k x).ep = k + 1 := rfl
@[simp] theorem mk_Rl_set (k : Int) (x : Rl) : (mk_Rl k x).set = mk_Ets (k + 1 + 1) x.set := rfl
def mk_Rls (k : Int) : List Rl → List Rl
  | [] => []
  | x :: r => mk_Rl k x :: mk_Rls (k + (cn_Rl x : Nat)) r
@[simp] theorem mk_Rls_len {k : Int} {l : List Rl} : (mk_Rls k l).length = l.length := by
  induction l generalizing k with
  | nil => rfl
  | cons x r ih => simp [mk_Rls,ih]
@[simp] theorem mk_Rls_take {k : Int} {l : List Rl} : (mk_Rls k l).take l.length = mk_Rls k l := List.take_of_length_le (by simp)
@[simp] theorem alike_rls (t u : Bool) (a b : List Rl) : V.alikeL (rls t a) (rls u b) = decide (a.length = b.length) := alikeL_map (fun _ _ => rfl)
def cn_Wk (x : Wk) : Nat := cn_Frs x.inbox + cn_Cts x.counts + cn_Hds x.nodes + 1 + 1 + cn_Rls x.outs + 1
def mk_Wk (k : Int) (x : Wk) : Wk := ⟨mk_Frs (k) x.inbox,mk_Cts (k + (cn_Frs x.inbox : Nat)) x.counts,mk_Hds (k + (cn_Frs x.inbox : Nat) + (cn_Cts x.counts : Nat)) x.nodes,k + (cn_Frs x.inbox : Nat) + (cn_Cts x.counts : Nat) + (cn_Hds x.nodes : Nat),k + (cn_Frs x.inbox : Nat) + (cn_Cts x.counts : Nat) + (cn_Hds x.nodes : Nat) + 1,mk_Rls (k + (cn_Frs x.inbox : Nat) + (cn_Cts x.counts : Nat) + (cn_Hds x.nodes : Nat) + 1 + 1) x.outs,decide ((k + (cn_Frs x.inbox : Nat) + (cn_Cts x.counts : Nat) + (cn_Hds x.nodes : Nat) + 1 + 1 + (cn_Rls x.outs : Nat)).tmod 3 = 0)⟩
@[simp] theorem mk_Wk_inbox (k : Int) (x : Wk) : (mk_Wk k x).inbox = mk_Frs (k) x.inbox := rfl
@[simp] theorem mk_Wk_counts (k : Int) (x : Wk) : (mk_Wk k x).counts = mk_Cts (k + (cn_Frs x.inbox : Nat)) x.counts := rfl
@[simp] theorem mk_Wk_nodes (k : Int) (x : Wk) : (mk_Wk k x).nodes = mk_Hds (k + (cn_Frs x.inbox : Nat) + (cn_Cts x.counts : Nat)) x.nodes := rfl
@[simp] theorem mk_Wk_ep (k : Int) (x : Wk) : (mk_Wk k x).ep = k + (cn_Frs x.inbox : Nat) + (cn_Cts x.counts : Nat) + (cn_Hds x.nodes : Nat) := rfl
@[simp] theorem mk_Wk_top (k : Int) (x : Wk) : (mk_Wk k x).top = k + (cn_Frs x.inbox : Nat) + (cn_Cts x.counts : Nat) + (cn_Hds x.nodes : Nat) + 1 := rfl
@[simp] theorem mk_Wk_outs (k : Int) (x : Wk) : (mk_Wk k x).outs = mk_Rls (k + (cn_Frs x.inbox : Nat) + (cn_Cts x.counts : Nat) + (cn_Hds x.nodes : Nat) + 1 + 1) x.outs := rfl
@[simp] theorem mk_Wk_bad (k : Int) (x : Wk) : (mk_Wk k x).bad = decide ((k + (cn_Frs x.inbox : Nat) + (cn_Cts x.counts : Nat) + (cn_Hds x.nodes : Nat) + 1 + 1 + (cn_Rls x.outs : Nat)).tmod 3 = 0) := rfl
def mk_Wks (k : Int) : List Wk → List Wk
  | [] => []
  | x :: r => mk_Wk k x :: mk_Wks (k + (cn_Wk x : Nat)) r
@[simp] theorem mk_Wks_len {k : Int} {l : List Wk} : (mk_Wks k l).length = l.length := by
  induction l generalizing k with
  | nil => rfl
  | cons x r ih => simp [mk_Wks,ih]
@[simp] theorem mk_Wks_take {k : Int} {l : List Wk} : (mk_Wks k l).take l.length = mk_Wks k l := List.take_of_length_le (by simp)
@[simp] theorem alike_wks (t u : Bool) (a b : List Wk) : V.alikeL (wks t a) (wks u b) = decide (a.length = b.length) := alikeL_map (fun _ _ => rfl)
end Go.Proofs.Ytgkbmiaimjpbfaa.Ev
namespace Go.Proofs.Ytgkbmiaimjpbfaa.Ev
open Go
set_option maxRecDepth 100000
set_option linter.unusedSimpArgs false
set_option linter.unusedVariables false
set_option maxHeartbeats 2000000
@[simp] abbrev crv (r : Int × List Ct) : V := .agg [.int .i64 r.1,.lst true 3 (cts r.2)]
theorem wS_le {α : Type} {f : α → Nat} {c : Nat} {l : List α} (h : ∀ x ∈ l,f x ≤ c) : wS f l ≤ l.length * c := by
  induction l with
  | nil => simp
  | cons x r ih =>
    have h1 := h x (List.mem_cons_self ..)
    have h2 := ih (fun y hy => h y (List.mem_cons_of_mem _ hy))
    simp only [wS_cons,List.length_cons,Nat.succ_mul]
    omega
theorem cn_Nds_le {l : List Nd} (hp : l.length < 2000000) (hk : okN l) : cn_Nds l < 5000000000000 := by
  have h1 : cn_Nds l ≤ l.length * 2000006 := wS_le (f:=cn_Nd) (fun x hx => by have := hk x hx;unfold cn_Nd;omega)
  have h2 : l.length * 2000006 ≤ 2000000 * 2000006 := Nat.mul_le_mul_right _ (by omega)
  omega
theorem cn_Cts_eq {l : List Ct} : cn_Cts l = 3 * l.length := by
  unfold cn_Cts
  induction l with
  | nil => rfl
  | cons x r ih => simp only [wS_cons,List.length_cons,ih,cn_Ct];omega
@[simp] abbrev crF (r : Int × List Ct) : V := .agg [.int .i64 r.1,.lst false 0 (cts r.2)]
theorem e_eqCr (r s : Int × List Ct) (h1 : r.2.length < 2000000) (h2 : s.2.length < 2000000) : oc.call 58 [crF r,crF s] = some (.bool (decide (r = s)),[]) := by
 refine fun_s rfl cd58 rfl rfl rfl (by simp;rfl) (by simp;rfl) ?_
 refine wa_ (wc_region (w_ (bx (h:=w_ (bx (h:=w_ (a_ (h:=wo_nil (e_ (h:=aft_normal (wa_ (wa_ (wc_region (w_ (f_ (h:=w_ (l_ (h:=?_))))))))))))))))))
 refine w_ (f_ (h:=w_ (l_ (h:=w_ (bE (h:=wo_nil (e_ (h:=aft_normal (?_)))))))))
 refine c_ (h1:=?_) (h2:=?_)
 rotate_right 1
 focus
  intro c1
  first
  | exact dn c1
  | (
   have d1 := c1;try simp at d1
   refine wc_skip (?_)
   )
 rotate_right 1
 focus
  intro c1
  first
  | exact dn c1
  | (
   have d1 := c1;try simp at d1
   refine wa_ (wc_region (w_ (a_ (h:=wo_nil (e_ (h:=aft_normal (wc_ret (?_))))))))
   )
 all_goals first
 | refine aft_ret ?_
 | (
  refine aft_normal ?_
  refine wa_ (wa_ (wc_region (w_ (f_ (h:=w_ (l_ (h:=w_ (f_ (h:=w_ (l_ (h:=w_ (ca (hc:=eq_Cts r.2 s.2 h1 h2) (h:=w_ (u_ (h:=wo_nil (e_ (h:=aft_normal (?_))))))))))))))))))
  refine c_ (h1:=?_) (h2:=?_)
  rotate_right 1
  focus
   intro c2
   first
   | exact dn c2
   | (
    have d2 := c2;try simp at d2
    refine wc_skip (?_)
    )
  rotate_right 1
  focus
   intro c2
   first
   | exact dn c2
   | (
    have d2 := c2;try simp at d2
    refine wa_ (wc_region (w_ (a_ (h:=wo_nil (e_ (h:=aft_normal (wc_ret (?_))))))))
    )
  all_goals first
  | refine aft_ret ?_
  | (
   refine aft_normal ?_
   refine wa_ (wc_region (w_ (a_ (h:=wo_nil (e_ (h:=aft_normal (wc_ret (?_))))))))
   )
  )
 all_goals (refine fin_ (hr:=(res_tmp rfl res_nil)) (h:=?_);(focus (simp [Prod.ext_iff] at *;simp_all)))
theorem e_heldCr (c k : Int) (l : List Ct) (hk : 0 ≤ k) (hb : k + (cn_Cts l : Nat) < 1000000000000000000) : oc.call 62 [crF (c,mk_Cts k l),.int .i64 k] = some (.int .i64 (k + (cn_Cts l : Nat)),[]) := by
 refine fun_s rfl cd62 rfl rfl rfl (by simp;rfl) (by simp;rfl) ?_
 refine wa_ (wc_region (w_ (bx (h:=w_ (a_ (h:=wo_nil (e_ (h:=aft_normal (wa_ (wc_region (w_ (f_ (h:=w_ (l_ (h:=w_ (m_ (h:=w_ (ca (hc:=held_Cts k l hk hb) (h:=?_)))))))))))))))))))
 refine w_ (a_ (h:=wo_nil (e_ (h:=aft_normal (wa_ (wa_ (wc_region (w_ (m_ (h:=w_ (b_ (h:=wo_nil (e_ (h:=aft_normal (?_)))))))))))))))
 refine c_ (h1:=?_) (h2:=?_)
 rotate_right 1
 focus
  intro c1
  first
  | exact dn c1
  | (
   have d1 := c1;try simp at d1
   refine wc_skip (?_)
   )
 rotate_right 1
 focus
  intro c1
  first
  | exact dn c1
  | (
   have d1 := c1;try simp at d1
   refine wa_ (wc_region (w_ (a_ (h:=wo_nil (e_ (h:=aft_normal (wc_ret (?_))))))))
   )
 all_goals first
 | refine aft_ret ?_
 | (
  refine aft_normal ?_
  refine wa_ (wc_region (w_ (m_ (h:=w_ (a_ (h:=wo_nil (e_ (h:=aft_normal (wc_ret (?_))))))))))
  )
 all_goals (refine fin_ (hr:=(res_tmp rfl res_nil)) (h:=?_);(focus (first | (simp at *;done) | (simp at *;omega))))
end Go.Proofs.Ytgkbmiaimjpbfaa.Ev
namespace Go.Proofs.Ytgkbmiaimjpbfaa.Ev
open Go
set_option maxRecDepth 100000
set_option linter.unusedSimpArgs false
set_option linter.unusedVariables false
set_option maxHeartbeats 2000000
def badR (pl : List Nd) : List Ct → Bool
  | [] => false
  | c :: r => if rightC pl c = false then true else badR pl r
theorem badR_t {pl : List Nd} {c : Ct} {r : List Ct} (h : rightC pl c = false) : badR pl (c :: r) = true := by rw [badR,if_pos h]
theorem badR_f {pl : List Nd} {c : Ct} {r : List Ct} (h : rightC pl c = true) : badR pl (c :: r) = badR pl r := by rw [badR,if_neg (by simp [h])]
theorem badR_mem {pl : List Nd} : ∀ {l : List Ct},badR pl l = false → ∀ x ∈ l,rightC pl x = true
  | [],_,x,hx => by cases hx
  | c :: r,h,x,hx => by
    by_cases hc : rightC pl c = true
    · rw [badR_f hc] at h
      rcases List.mem_cons.1 hx with rfl | hx
      · exact hc
      · exact badR_mem h x hx
    · rw [badR_t (by simpa using hc)] at h;cases h
def adN (pl : List Nd) (l m : List Ct) : Int × List Ct :=
  if ctsN pl l = 0 then if 200 < m.length then (2,[]) else if badR pl m = true then (3,[]) else ((addS (m.foldl putC l)).2,(addS (m.foldl putC l)).1) else (ctsN pl l,[])
theorem rightC_n {pl : List Nd} {c : Ct} (h : rightC pl c = true) : -1000000000000 ≤ c.n ∧ c.n ≤ 1000000000000 := by
  simp [rightC,inI] at h;exact h.2.2
theorem w64_in {a : Int} (h : -1000000000000 ≤ a ∧ a ≤ 1000000000000) : IntKind.i64.wrap (0 + a) = a := by
  rw [Int.zero_add];exact wrap_id (by omega) (by omega)
theorem ctsR_ok {pl : List Nd} : ∀ {l : List Ct} {p : Option Ct},ctsR pl p l = 0 → (∀ x ∈ l,rightC pl x = true) ∧ (match p with | some q => (q :: l).Pairwise (fun x y => ltC x y = true) | none => l.Pairwise (fun x y => ltC x y = true))
  | [],p,_ => by refine ⟨fun x hx => (by cases hx),?_⟩;cases p <;> simp
  | c :: r,p,h => by
    by_cases h1 : rightC pl c = false ∨ c.n = 0
    · rw [ctsR_3 h1] at h;cases h
    · by_cases h2 : (p.elim false fun q => !ahead q c) = true
      · rw [ctsR_1 h1 h2] at h;cases h
      · rw [ctsR_0 h1 h2] at h
        obtain ⟨a,b⟩ := ctsR_ok h
        simp only at b
        have hc : rightC pl c = true := by
          cases e : rightC pl c
          · exact absurd (.inl e) h1
          · rfl
        refine ⟨fun x hx => ?_,?_⟩
        · rcases List.mem_cons.1 hx with rfl | hx
          · exact hc
          · exact a x hx
        · cases p with
          | none => exact b
          | some q =>
            simp only [Option.elim] at h2
            have hq : ltC q c = true := by rw [← ahead_lt];simpa using h2
            refine List.pairwise_cons.2 ⟨fun y hy => ?_,b⟩
            rcases List.mem_cons.1 hy with rfl | hy
            · exact hq
            · have := (List.pairwise_cons.1 b).1 y hy
              rw [ltC_iff] at *;omega
theorem ctsN_ok {pl : List Nd} {l : List Ct} (h : ctsN pl l = 0) : l.length ≤ 200 ∧ (∀ x ∈ l,rightC pl x = true) ∧ l.Pairwise (fun x y => ltC x y = true) := by
  unfold ctsN at h
  split at h
  · unfold ctsF at h
    split at h
    · cases h
    · exact ⟨by omega,ctsR_ok (p:=none) h⟩
  · rename_i h1;exact absurd h h1
theorem l_adI (pl : List Nd) (l m : List Ct) (hp : pl.length < 2000000) (hm : m.length ≤ 200) : ∀ i : Nat,(i ≤ m.length) → ∀ s,normE 3 (some [0,1,2,6,23,24,25]) s = ⟨[(0,.lst false 0 (nds false 0 pl)),(1,.lst false 0 (cts l)),(2,.lst false 0 (cts m)),(6,.ptr 3 0 []),(23,.lst false 0 (cts m)),(24,.int .i64 m.length),(25,.int .i64 i)],[(3,⟨true,false,2,[.agg [.int .i64 0,.lst true 3 []]],0⟩)],4⟩ →
 oc.loop 50 7 s = some (if badR pl (m.drop i) = true then (.ret,⟨[(1,.lst false 0 (cts l)),(2,.lst false 0 (cts m)),(6,.ptr 3 0 [])],[(3,⟨true,false,2,[.agg [.int .i64 3,.lst true 3 []]],0⟩)],4⟩) else (.exit 0,⟨[(1,.lst false 0 (cts l)),(2,.lst false 0 (cts m)),(6,.ptr 3 0 [])],[(3,⟨true,false,2,[.agg [.int .i64 0,.lst true 3 []]],0⟩)],4⟩)) := by
 refine loop_ind (σ:=Nat) (fun i => m.length - i) _ (fun i => ⟨[(0,.lst false 0 (nds false 0 pl)),(1,.lst false 0 (cts l)),(2,.lst false 0 (cts m)),(6,.ptr 3 0 []),(23,.lst false 0 (cts m)),(24,.int .i64 m.length),(25,.int .i64 i)],[(3,⟨true,false,2,[.agg [.int .i64 0,.lst true 3 []]],0⟩)],4⟩) _ ?_
 intro i hi ih s hs
 refine loop_s cd50 rfl rfl hs ?_
 refine wa_ (wc_region (w_ (b_ (h:=wo_nil (e_ (h:=aft_normal (wa_ (?_))))))))
 refine c_ (h1:=?_) (h2:=?_)
 rotate_right 1
 focus
  intro c1
  first
  | exact dn c1
  | (
   have d1 := c1;try simp at d1
   refine wc_exit (?_)
   )
 rotate_right 1
 focus
  intro c1
  first
  | exact dn c1
  | (
   have d1 := c1;try simp at d1
   have hj : i < m.length := (by simp at c1;omega);have hw := wrap_succ (i:=i) (by omega);obtain ⟨c,hx,e1,g1⟩ := cts_cut (l:=m) (i:=i) (by omega)
   refine wc_skip (?_)
   )
 all_goals first
 | refine aft_exit ?_
 | (
  refine aft_normal ?_
  refine wa_ (wc_block (wa_ (wc_region (w_ (x_ (h:=w_ (l_ (h:=w_ (al (h:=w0 (s_ (h:=wo_nil (e_ (h:=aft_normal (wa_ (wc_region (?_)))))))))))))))))
  refine w_ (m_ (h:=w_ (l_ (h:=w_ (ca (hc:=e_isCount pl c hp) (h:=w_ (u_ (h:=wo_nil (e_ (h:=aft_normal (?_)))))))))))
  refine c_ (h1:=?_) (h2:=?_)
  rotate_right 1
  focus
   intro c2
   first
   | exact dn c2
   | (
    have d2 := c2;try simp at d2
    refine wc_skip (?_)
    )
  rotate_right 1
  focus
   intro c2
   first
   | exact dn c2
   | (
    have d2 := c2;try simp at d2
    refine wa_ (wc_region (w_ (bd (h:=w0 (s_ (h:=wo_nil (e_ (h:=aft_normal (wc_ret (?_))))))))))
    )
  all_goals first | refine blk_normal ?_ | refine blk_ret ?_
  all_goals first
  | refine aft_ret ?_
  | (
   refine aft_normal ?_
   refine wc_region (w_ (b_ (h:=w_ (m_ (h:=wo_nil (e_ (h:=?_)))))))
   )
  )
 all_goals first
 | (apply end_leaf (ex:=(Ext.exit 0)) 3 (some [1,2,6]);(focus (simp [normE];rfl));(focus (rw [List.drop_eq_nil_of_le (by simp at c1;omega)];rfl)))
 | (apply end_leaf (ex:=Ext.ret) 3 (some [1,2,6]);(focus (simp [normE];rfl));(focus (rw [e1,badR_t (by simpa using d2)];rfl)))
 | (refine (ih (i + 1) (by omega) ?_ _ ?_).trans ?_;(focus (first | omega | (simp;done) | (simp;omega)));(focus (simp [normE,hw];done));(focus (rw [e1,badR_f (by simpa using d2)])))
theorem l_adS (pl : List Nd) (l m : List Ct) (hp : pl.length < 2000000) (hm : m.length ≤ 200) : ∀ i : Nat,(i ≤ m.length) → ∀ s,normE 3 (some [0,1,2,6,8]) s = ⟨[(0,.lst false 0 (nds false 0 pl)),(1,.lst false 0 (cts l)),(2,.lst false 0 (cts m)),(6,.ptr 3 0 []),(8,.int .i64 i)],[(3,⟨true,false,2,[.agg [.int .i64 0,.lst true 3 []]],0⟩)],4⟩ →
 oc.loop 51 7 s = some (if badR pl (m.drop i) = true then (.ret,⟨[(1,.lst false 0 (cts l)),(2,.lst false 0 (cts m)),(6,.ptr 3 0 [])],[(3,⟨true,false,2,[.agg [.int .i64 3,.lst true 3 []]],0⟩)],4⟩) else (.exit 0,⟨[(1,.lst false 0 (cts l)),(2,.lst false 0 (cts m)),(6,.ptr 3 0 [])],[(3,⟨true,false,2,[.agg [.int .i64 0,.lst true 3 []]],0⟩)],4⟩)) := by
 refine loop_ind (σ:=Nat) (fun i => m.length - i) _ (fun i => ⟨[(0,.lst false 0 (nds false 0 pl)),(1,.lst false 0 (cts l)),(2,.lst false 0 (cts m)),(6,.ptr 3 0 []),(8,.int .i64 i)],[(3,⟨true,false,2,[.agg [.int .i64 0,.lst true 3 []]],0⟩)],4⟩) _ ?_
 intro i hi ih s hs
 refine loop_s cd51 rfl rfl hs ?_
 refine wa_ (wa_ (wc_region (w_ (m_ (h:=w_ (m_ (h:=w_ (le (h:=w_ (b_ (h:=wo_nil (e_ (h:=aft_normal (?_))))))))))))))
 refine c_ (h1:=?_) (h2:=?_)
 rotate_right 1
 focus
  intro c1
  first
  | exact dn c1
  | (
   have d1 := c1;try simp at d1
   refine wc_exit (?_)
   )
 rotate_right 1
 focus
  intro c1
  first
  | exact dn c1
  | (
   have d1 := c1;try simp at d1
   have hj : i < m.length := (by simp at c1;omega);have hw := wrap_succ (i:=i) (by omega);obtain ⟨c,hx,e1,g1⟩ := cts_cut (l:=m) (i:=i) (by omega)
   refine wc_skip (?_)
   )
 all_goals first
 | refine aft_exit ?_
 | (
  refine aft_normal ?_
  refine wa_ (wc_block (wa_ (wc_region (w_ (m_ (h:=w_ (m_ (h:=w_ (m_ (h:=w_ (x_ (h:=w_ (l_ (h:=w_ (ca (hc:=e_l7Right pl c hp) (h:=w_ (u_ (h:=wo_nil (e_ (h:=?_))))))))))))))))))))
  refine aft_normal (?_)
  refine c_ (h1:=?_) (h2:=?_)
  rotate_right 1
  focus
   intro c2
   first
   | exact dn c2
   | (
    have d2 := c2;try simp at d2
    refine wc_skip (?_)
    )
  rotate_right 1
  focus
   intro c2
   first
   | exact dn c2
   | (
    have d2 := c2;try simp at d2
    refine wa_ (wc_region (w_ (bd (h:=w0 (s_ (h:=wo_nil (e_ (h:=aft_normal (wc_ret (?_))))))))))
    )
  all_goals first | refine blk_normal ?_ | refine blk_ret ?_
  all_goals first
  | refine aft_ret ?_
  | (
   refine aft_normal ?_
   refine wc_region (w_ (m_ (h:=w_ (b_ (h:=w_ (a_ (h:=wo_nil (e_ (h:=?_)))))))))
   )
  )
 all_goals first
 | (apply end_leaf (ex:=(Ext.exit 0)) 3 (some [1,2,6]);(focus (simp [normE];rfl));(focus (rw [List.drop_eq_nil_of_le (by simp at c1;omega)];rfl)))
 | (apply end_leaf (ex:=Ext.ret) 3 (some [1,2,6]);(focus (simp [normE];rfl));(focus (rw [e1,badR_t (by simpa using d2)];rfl)))
 | (refine (ih (i + 1) (by omega) ?_ _ ?_).trans ?_;(focus (first | omega | (simp;done) | (simp;omega)));(focus (simp [normE,hw];done));(focus (rw [e1,badR_f (by simpa using d2)])))
theorem e_adI (pl : List Nd) (l m : List Ct) (hp : pl.length < 2000000) (hk : okN pl) : oc.call 50 [.lst false 0 (nds false 0 pl),.lst false 0 (cts l),.lst false 0 (cts m)] = some (.agg [.int .i64 (adN pl l m).1,.lst true 3 (cts (adN pl l m).2)],[]) := by
 refine fun_s rfl cd50 rfl rfl rfl (by simp;rfl) (by simp;rfl) ?_
 refine wa_ (wc_region (w_ (al (h:=wo_nil (e_ (h:=aft_normal (wa_ (wa_ (wc_region (w_ (m_ (h:=w_ (m_ (h:=w_ (ca (hc:=e_ctsFI pl l hp hk) (h:=w_ (a_ (h:=?_))))))))))))))))))
 refine wo_nil (e_ (h:=aft_normal (wa_ (wc_region (w_ (m_ (h:=w_ (bE (h:=wo_nil (e_ (h:=aft_normal (?_))))))))))))
 refine c_ (h1:=?_) (h2:=?_)
 rotate_right 1
 focus
  intro c1
  first
  | exact dn c1
  | (
   have d1 := c1;try simp at d1
   have k0 : ctsN pl l = 0 := (by simpa using d1);obtain ⟨k1,k2,k3⟩ := ctsN_ok k0
   refine wc_skip (?_)
   )
 rotate_right 1
 focus
  intro c1
  first
  | exact dn c1
  | (
   have d1 := c1;try simp at d1
   refine wa_ (wc_region (w_ (m_ (h:=w_ (bd (h:=w0 (s_ (h:=wo_nil (e_ (h:=aft_normal (wc_ret (?_))))))))))))
   )
 all_goals first
 | refine aft_ret ?_
 | (
  refine aft_normal ?_
  refine wa_ (wa_ (wc_region (w_ (m_ (h:=w_ (le (h:=w_ (b_ (h:=wo_nil (e_ (h:=aft_normal (?_))))))))))))
  refine c_ (h1:=?_) (h2:=?_)
  rotate_right 1
  focus
   intro c2
   first
   | exact dn c2
   | (
    have d2 := c2;try simp at d2
    have km : m.length ≤ 200 := (by first | omega | (simp at d2;omega));have hl7 := l_adI pl l m hp km 0 (by omega)
    refine wc_skip (?_)
    )
  rotate_right 1
  focus
   intro c2
   first
   | exact dn c2
   | (
    have d2 := c2;try simp at d2
    refine wa_ (wc_region (w_ (bd (h:=w0 (s_ (h:=wo_nil (e_ (h:=aft_normal (wc_ret (?_))))))))))
    )
  all_goals first
  | refine aft_ret ?_
  | (
   refine aft_normal ?_
   refine wa_ (wa_ (wc_region (w_ (m_ (h:=w_ (le (h:=w_ (m_ (h:=wo_nil (e_ (h:=aft_normal (wc_block (?_)))))))))))))
   refine wc_loopI (hl7 _ (by simp [normE])) ?_ ?_
   rotate_right 1
   focus
    intro c3
    first
    | exact dn c3
    | (
     have d3 := c3;try simp at d3
     have k4 := badR_mem (pl:=pl) (l:=m) (by simpa using d3)
     skip
     )
   rotate_right 1
   focus
    intro c3
    first
    | exact dn c3
    | (
     have d3 := c3;try simp at d3
     skip
     )
   all_goals first | refine blk_ret ?_ | refine blk_exit ?_
   all_goals first
   | refine aft_ret ?_
   | (
    refine aft_normal ?_
    refine wa_ (wc_region (w_ (m_ (h:=w_ (m_ (h:=w_ (ca (hc:=e_addC l m (by omega) (by omega) k3 (fun x hx => w64_in (rightC_n (by rcases List.mem_append.1 hx with h | h;exact k2 x h;exact k4 x h)))) (h:=w_ (m_ (h:=w_ (ex (h:=w_ (ex (h:=w_ (a_ (h:=w_ (a_ (h:=wo_nil (e_ (h:=aft_normal (?_)))))))))))))))))))))
    refine wa_ (wc_region (w_ (m_ (h:=w_ (m_ (h:=w_ (bd (h:=w0 (s_ (h:=wo_nil (e_ (h:=aft_normal (wc_ret (?_))))))))))))))
    )
   )
  )
 all_goals (refine fin_ (hr:=(res_cell (tys_ok.zero _ _ rfl) rfl (by simp;rfl) (by rfl) res_nil)) (h:=?_);(focus (unfold adN;first | (simp [*];done) | (rw [if_pos k0,if_pos (by omega)];simp;done) | (rw [if_pos k0,if_neg (by omega),if_pos (by assumption)];simp;done) | (rw [if_pos k0,if_neg (by omega),if_neg (by simpa using d3)];simp;done))))
theorem e_adS (pl : List Nd) (l m : List Ct) (hp : pl.length < 2000000) (hk : okN pl) : oc.call 51 [.lst false 0 (nds false 0 pl),.lst false 0 (cts l),.lst false 0 (cts m)] = some (.agg [.int .i64 (adN pl l m).1,.lst true 3 (cts (adN pl l m).2)],[]) := by
 refine fun_s rfl cd51 rfl rfl rfl (by simp;rfl) (by simp;rfl) ?_
 refine wa_ (wc_region (w_ (al (h:=wo_nil (e_ (h:=aft_normal (wa_ (wa_ (wc_region (w_ (m_ (h:=w_ (m_ (h:=w_ (ca (hc:=e_ctsFS pl l hp hk) (h:=w_ (a_ (h:=?_))))))))))))))))))
 refine wo_nil (e_ (h:=aft_normal (wa_ (wc_region (w_ (m_ (h:=w_ (bE (h:=wo_nil (e_ (h:=aft_normal (?_))))))))))))
 refine c_ (h1:=?_) (h2:=?_)
 rotate_right 1
 focus
  intro c1
  first
  | exact dn c1
  | (
   have d1 := c1;try simp at d1
   have k0 : ctsN pl l = 0 := (by simpa using d1);obtain ⟨k1,k2,k3⟩ := ctsN_ok k0
   refine wc_skip (?_)
   )
 rotate_right 1
 focus
  intro c1
  first
  | exact dn c1
  | (
   have d1 := c1;try simp at d1
   refine wa_ (wc_region (w_ (m_ (h:=w_ (bd (h:=w0 (s_ (h:=wo_nil (e_ (h:=aft_normal (wc_ret (?_))))))))))))
   )
 all_goals first
 | refine aft_ret ?_
 | (
  refine aft_normal ?_
  refine wa_ (wa_ (wc_region (w_ (m_ (h:=w_ (le (h:=w_ (b_ (h:=wo_nil (e_ (h:=aft_normal (?_))))))))))))
  refine c_ (h1:=?_) (h2:=?_)
  rotate_right 1
  focus
   intro c2
   first
   | exact dn c2
   | (
    have d2 := c2;try simp at d2
    have km : m.length ≤ 200 := (by first | omega | (simp at d2;omega));have hl7 := l_adS pl l m hp km 0 (by omega)
    refine wc_skip (?_)
    )
  rotate_right 1
  focus
   intro c2
   first
   | exact dn c2
   | (
    have d2 := c2;try simp at d2
    refine wa_ (wc_region (w_ (bd (h:=w0 (s_ (h:=wo_nil (e_ (h:=aft_normal (wc_ret (?_))))))))))
    )
  all_goals first
  | refine aft_ret ?_
  | (
   refine aft_normal ?_
   refine wa_ (wa_ (wc_region (w_ (a_ (h:=wo_nil (e_ (h:=aft_normal (wc_block (?_)))))))))
   refine wc_loopI (hl7 _ (by simp [normE])) ?_ ?_
   rotate_right 1
   focus
    intro c3
    first
    | exact dn c3
    | (
     have d3 := c3;try simp at d3
     skip
     )
   rotate_right 1
   focus
    intro c3
    first
    | exact dn c3
    | (
     have d3 := c3;try simp at d3
     skip
     )
   all_goals first | refine blk_ret ?_ | refine blk_exit ?_
   all_goals first
   | refine aft_ret ?_
   | (
    refine aft_normal ?_
    refine wa_ (wc_region (w_ (m_ (h:=w_ (m_ (h:=w_ (ca (hc:=e_l7Add l m (by omega) (by omega)) (h:=w_ (m_ (h:=w_ (ex (h:=w_ (ex (h:=w_ (a_ (h:=w_ (a_ (h:=wo_nil (e_ (h:=aft_normal (?_)))))))))))))))))))))
    refine wa_ (wc_region (w_ (m_ (h:=w_ (m_ (h:=w_ (bd (h:=w0 (s_ (h:=wo_nil (e_ (h:=aft_normal (wc_ret (?_))))))))))))))
    )
   )
  )
 all_goals (refine fin_ (hr:=(res_cell (tys_ok.zero _ _ rfl) rfl (by simp;rfl) (by rfl) res_nil)) (h:=?_);(focus (unfold adN;first | (simp [*];done) | (rw [if_pos k0,if_pos (by omega)];simp;done) | (rw [if_pos k0,if_neg (by omega),if_pos (by assumption)];simp;done) | (rw [if_pos k0,if_neg (by omega),if_neg (by simpa using d3)];simp;done))))
theorem badR_len {pl : List Nd} {l m : List Ct} : (adN pl l m).2.length < 2000000 := by
  unfold adN
  split
  · split
    · simp
    · split
      · simp
      · unfold addS
        split
        · simp
        · split
          · simp
          · rename_i h;simp only;omega
  · simp
theorem law_adc (pl : List Nd) (l m : List Ct) (ho : okB pl) (hl : l.length ≤ 140737488351232) (hm : m.length ≤ 140737488351232) : oc.call 10 [.lst false 0 (nds false 0 pl),.lst false 0 (cts l),.lst false 0 (cts m)] = some (.bool true,[]) := by
 refine fun_s rfl cd10 rfl rfl rfl (by simp;rfl) (by simp;rfl) ?_
 refine wa_ (wc_region (w_ (a_ (h:=wo_nil (e_ (h:=aft_normal (wa_ (wc_region (w_ (a_ (h:=wo_nil (e_ (h:=aft_normal (wa_ (wc_region (?_))))))))))))))))
 refine w_ (m_ (h:=w_ (m_ (h:=w_ (ca (hc:=e_szNS pl 0 1048576 ho (by omega) (by omega)) (h:=w_ (a_ (h:=wo_nil (e_ (h:=aft_normal (wa_ (wa_ (wc_region (w_ (m_ (h:=w_ (b_ (h:=wo_nil (e_ (h:=?_))))))))))))))))))))
 refine aft_normal (?_)
 refine c_ (h1:=?_) (h2:=?_)
 rotate_right 1
 focus
  intro c1
  first
  | exact dn c1
  | (
   have d1 := c1;try simp at d1
   obtain ⟨h1,h2,h3⟩ := szP_ok (l:=pl) (a:=1048576) (by omega) (by omega);have hn := cn_Nds_le h1 h2;have hc := badR_len (pl:=pl) (l:=l) (m:=m);have hcc := cn_Cts_eq (l:=(adN pl l m).2)
   refine wc_skip (?_)
   )
 rotate_right 1
 focus
  intro c1
  first
  | exact dn c1
  | (
   have d1 := c1;try simp at d1
   refine wa_ (wc_region (w_ (a_ (h:=wo_nil (e_ (h:=aft_normal (wc_ret (?_))))))))
   )
 all_goals first
 | refine aft_ret ?_
 | (
  refine aft_normal ?_
  refine wa_ (wc_region (w_ (m_ (h:=w_ (m_ (h:=?_))))))
  first | refine w_ (ca (hc:=sz_Cts l (szP pl 1048576) hl (by omega) (by omega)) (h:=?_)) | refine w_ (ca (hc:=sz_Cts m (szI l.length (szP pl 1048576)) hm (by omega) (by omega)) (h:=?_))
  refine w_ (a_ (h:=wo_nil (e_ (h:=aft_normal (wa_ (wa_ (wc_region (w_ (m_ (h:=w_ (b_ (h:=wo_nil (e_ (h:=aft_normal (?_)))))))))))))))
  refine c_ (h1:=?_) (h2:=?_)
  rotate_right 1
  focus
   intro c2
   first
   | exact dn c2
   | (
    have d2 := c2;try simp at d2
    obtain ⟨h4,h5⟩ := szI_pos (n:=l.length) (a:=szP pl 1048576) (by omega);have hcl := cn_Cts_eq (l:=l)
    refine wc_skip (?_)
    )
  rotate_right 1
  focus
   intro c2
   first
   | exact dn c2
   | (
    have d2 := c2;try simp at d2
    refine wa_ (wc_region (w_ (a_ (h:=wo_nil (e_ (h:=aft_normal (wc_ret (?_))))))))
    )
  all_goals first
  | refine aft_ret ?_
  | (
   refine aft_normal ?_
   refine wa_ (wc_region (w_ (m_ (h:=w_ (m_ (h:=?_))))))
   first | refine w_ (ca (hc:=sz_Cts l (szP pl 1048576) hl (by omega) (by omega)) (h:=?_)) | refine w_ (ca (hc:=sz_Cts m (szI l.length (szP pl 1048576)) hm (by omega) (by omega)) (h:=?_))
   refine w_ (a_ (h:=wo_nil (e_ (h:=aft_normal (wa_ (wa_ (wc_region (w_ (m_ (h:=w_ (b_ (h:=wo_nil (e_ (h:=aft_normal (?_)))))))))))))))
   refine c_ (h1:=?_) (h2:=?_)
   rotate_right 1
   focus
    intro c3
    first
    | exact dn c3
    | (
     have d3 := c3;try simp at d3
     obtain ⟨h6,h7⟩ := szI_pos (n:=m.length) (a:=szI l.length (szP pl 1048576)) (by omega);have hcm := cn_Cts_eq (l:=m)
     refine wc_skip (?_)
     )
   rotate_right 1
   focus
    intro c3
    first
    | exact dn c3
    | (
     have d3 := c3;try simp at d3
     refine wa_ (wc_region (w_ (a_ (h:=wo_nil (e_ (h:=aft_normal (wc_ret (?_))))))))
     )
   all_goals first
   | refine aft_ret ?_
   | (
    refine aft_normal ?_
    refine wa_ (wc_region (w_ (m_ (h:=w_ (ca (hc:=e_toNS pl 0 h1 h2) (h:=w_ (m_ (h:=?_))))))))
    first | refine w_ (ca (hc:=to_Cts l (by omega)) (h:=?_)) | refine w_ (ca (hc:=to_Cts m (by omega)) (h:=?_))
    refine w_ (m_ (h:=?_))
    first | refine w_ (ca (hc:=to_Cts l (by omega)) (h:=?_)) | refine w_ (ca (hc:=to_Cts m (by omega)) (h:=?_))
    refine w_ (ca (hc:=e_adS pl l m h1 h2) (h:=w_ (al (h:=w0 (s_ (h:=wo_nil (e_ (h:=aft_normal (wa_ (wc_region (w_ (m_ (h:=w_ (ca (hc:=e_toNS pl 0 h1 h2) (h:=w_ (a_ (h:=wo_nil (e_ (h:=aft_normal (?_))))))))))))))))))))
    refine wa_ (wc_region (w_ (m_ (h:=?_))))
    first | refine w_ (ca (hc:=to_Cts l (by omega)) (h:=?_)) | refine w_ (ca (hc:=to_Cts m (by omega)) (h:=?_))
    refine w_ (a_ (h:=wo_nil (e_ (h:=aft_normal (wa_ (wc_region (w_ (m_ (h:=?_)))))))))
    first | refine w_ (ca (hc:=to_Cts l (by omega)) (h:=?_)) | refine w_ (ca (hc:=to_Cts m (by omega)) (h:=?_))
    refine w_ (a_ (h:=wo_nil (e_ (h:=aft_normal (wa_ (wc_region (w_ (m_ (h:=w_ (m_ (h:=w_ (m_ (h:=w_ (ca (hc:=e_adI pl l m h1 h2) (h:=w_ (al (h:=w0 (s_ (h:=wo_nil (e_ (h:=?_)))))))))))))))))))))
    refine aft_normal (wa_ (wa_ (wc_region (w_ (l_ (h:=w_ (l_ (h:=w_ (ca (hc:=e_eqCr (adN pl l m) (adN pl l m) hc hc) (h:=w_ (u_ (h:=wo_nil (e_ (h:=aft_normal (?_)))))))))))))))
    refine c_ (h1:=?_) (h2:=?_)
    rotate_right 1
    focus
     intro c4
     first
     | exact dn c4
     | (
      have d4 := c4;try simp at d4
      refine wc_skip (?_)
      )
    rotate_right 1
    focus
     intro c4
     first
     | exact dn c4
     | (
      have d4 := c4;try simp at d4
      refine wa_ (wc_region (w_ (a_ (h:=wo_nil (e_ (h:=aft_normal (wc_ret (?_))))))))
      )
    all_goals first
    | refine aft_ret ?_
    | (
     refine aft_normal ?_
     refine wa_ (wa_ (wc_region (w_ (m_ (h:=w_ (m_ (h:=w_ (ca (hc:=e_toNS pl 0 h1 h2) (h:=w_ (ca (hc:=e_eqNS pl pl 0 0 h1 h1 h2 h2) (h:=w_ (u_ (h:=wo_nil (e_ (h:=aft_normal (?_))))))))))))))))
     refine c_ (h1:=?_) (h2:=?_)
     rotate_right 1
     focus
      intro c5
      first
      | exact dn c5
      | (
       have d5 := c5;try simp at d5
       refine wc_skip (?_)
       )
     rotate_right 1
     focus
      intro c5
      first
      | exact dn c5
      | (
       have d5 := c5;try simp at d5
       refine wa_ (wc_region (w_ (a_ (h:=wo_nil (e_ (h:=aft_normal (wc_ret (?_))))))))
       )
     all_goals first
     | refine aft_ret ?_
     | (
      refine aft_normal ?_
      refine wa_ (wa_ (wc_region (w_ (m_ (h:=w_ (m_ (h:=?_)))))))
      first | refine w_ (ca (hc:=to_Cts l (by omega)) (h:=?_)) | refine w_ (ca (hc:=to_Cts m (by omega)) (h:=?_))
      first | refine w_ (ca (hc:=eq_Cts l l (by omega) (by omega)) (h:=?_)) | refine w_ (ca (hc:=eq_Cts m m (by omega) (by omega)) (h:=?_))
      refine w_ (u_ (h:=wo_nil (e_ (h:=aft_normal (?_)))))
      refine c_ (h1:=?_) (h2:=?_)
      rotate_right 1
      focus
       intro c6
       first
       | exact dn c6
       | (
        have d6 := c6;try simp at d6
        refine wc_skip (?_)
        )
      rotate_right 1
      focus
       intro c6
       first
       | exact dn c6
       | (
        have d6 := c6;try simp at d6
        refine wa_ (wc_region (w_ (a_ (h:=wo_nil (e_ (h:=aft_normal (wc_ret (?_))))))))
        )
      all_goals first
      | refine aft_ret ?_
      | (
       refine aft_normal ?_
       refine wa_ (wa_ (wc_region (w_ (m_ (h:=w_ (m_ (h:=?_)))))))
       first | refine w_ (ca (hc:=to_Cts l (by omega)) (h:=?_)) | refine w_ (ca (hc:=to_Cts m (by omega)) (h:=?_))
       first | refine w_ (ca (hc:=eq_Cts l l (by omega) (by omega)) (h:=?_)) | refine w_ (ca (hc:=eq_Cts m m (by omega) (by omega)) (h:=?_))
       refine w_ (u_ (h:=wo_nil (e_ (h:=aft_normal (?_)))))
       refine c_ (h1:=?_) (h2:=?_)
       rotate_right 1
       focus
        intro c7
        first
        | exact dn c7
        | (
         have d7 := c7;try simp at d7
         refine wc_skip (?_)
         )
       rotate_right 1
       focus
        intro c7
        first
        | exact dn c7
        | (
         have d7 := c7;try simp at d7
         refine wa_ (wc_region (w_ (a_ (h:=wo_nil (e_ (h:=aft_normal (wc_ret (?_))))))))
         )
       all_goals first
       | refine aft_ret ?_
       | (
        refine aft_normal ?_
        refine wa_ (wc_region (w_ (a_ (h:=wo_nil (e_ (h:=aft_normal (wa_ (wc_region (w_ (m_ (h:=w_ (m_ (h:=?_)))))))))))))
        first | refine ip (hc:=mkf_Nds 1 pl (by omega) (by omega)) (h:=?_) | refine iq (hc:=mkf_Nds 1 pl (by omega) (by omega)) (h:=?_)
        refine w_ (a_ (h:=wo_nil (e_ (h:=aft_normal (wa_ (wc_region (w_ (m_ (h:=w_ (m_ (h:=?_)))))))))))
        first | refine ip (hc:=mkf_Cts (1 + (cn_Nds pl : Nat)) l (by omega) (by omega)) (h:=?_) | refine iq (hc:=mkf_Cts (1 + (cn_Nds pl : Nat)) l (by omega) (by omega)) (h:=?_) | refine ip (hc:=mkf_Cts (1 + (cn_Nds pl : Nat) + (cn_Cts l : Nat)) m (by omega) (by omega)) (h:=?_) | refine iq (hc:=mkf_Cts (1 + (cn_Nds pl : Nat) + (cn_Cts l : Nat)) m (by omega) (by omega)) (h:=?_) | refine ip (hc:=mkf_Cts 1 (adN pl l m).2 (by omega) (by omega)) (h:=?_) | refine iq (hc:=mkf_Cts 1 (adN pl l m).2 (by omega) (by omega)) (h:=?_)
        refine w_ (a_ (h:=wo_nil (e_ (h:=aft_normal (wa_ (wc_region (w_ (m_ (h:=w_ (m_ (h:=?_)))))))))))
        first | refine ip (hc:=mkf_Cts (1 + (cn_Nds pl : Nat)) l (by omega) (by omega)) (h:=?_) | refine iq (hc:=mkf_Cts (1 + (cn_Nds pl : Nat)) l (by omega) (by omega)) (h:=?_) | refine ip (hc:=mkf_Cts (1 + (cn_Nds pl : Nat) + (cn_Cts l : Nat)) m (by omega) (by omega)) (h:=?_) | refine iq (hc:=mkf_Cts (1 + (cn_Nds pl : Nat) + (cn_Cts l : Nat)) m (by omega) (by omega)) (h:=?_) | refine ip (hc:=mkf_Cts 1 (adN pl l m).2 (by omega) (by omega)) (h:=?_) | refine iq (hc:=mkf_Cts 1 (adN pl l m).2 (by omega) (by omega)) (h:=?_)
        refine w_ (a_ (h:=wo_nil (e_ (h:=aft_normal (wa_ (wa_ (wc_region (w_ (m_ (h:=w_ (b_ (h:=w_ (m_ (h:=?_))))))))))))))
        refine gw_ (h1:=?_) (h2:=?_)
        rotate_right 1
        focus
         intro c8
         first
         | exact dn c8
         | (
          have d8 := c8;try simp at d8
          refine go_ (h:=go_ (h:=go_ (h:=go_ (h:=?_))))
          )
        rotate_right 1
        focus
         intro c8
         first
         | exact dn c8
         | (
          have d8 := c8;try simp at d8
          refine g_ (h:=w_ (l_ (h:=g_ (h:=w_ (l_ (h:=g_ (h:=w_ (ca (hc:=e_eqCr (adN pl l m) (adN pl l m) hc hc) (h:=g_ (h:=w_ (u_ (h:=?_))))))))))))
          )
        all_goals
         refine w_ (pk (h:=wo_nil (e_ (h:=?_))))
        all_goals first
        | (
         refine aft_normal ?_
         refine c_ (h1:=?_) (h2:=?_)
         rotate_right 1
         focus
          intro c9
          first
          | exact dn c9
          | (
           have d9 := c9;try simp at d9
           refine wc_skip (?_)
           )
         rotate_right 1
         focus
          intro c9
          first
          | exact dn c9
          | (
           have d9 := c9;try simp at d9
           refine wa_ (wc_region (w_ (a_ (h:=wo_nil (e_ (h:=aft_normal (wc_ret (?_))))))))
           )
         )
        all_goals first
        | refine aft_ret ?_
        | (
         refine aft_normal ?_
         refine wa_ (wc_region (w_ (a_ (h:=wo_nil (e_ (h:=aft_normal (wa_ (wc_region (w_ (l_ (h:=w_ (m_ (h:=?_)))))))))))))
         refine iE (h:=?_)
         apply Exists.intro
         apply Exists.intro
         apply Exists.intro
         apply And.intro
         focus
          apply inl_s (by rw [cf_pl];rfl) cd61 rfl rfl (by simp;rfl)
          refine wa_ (wc_region (w_ (bx (h:=w_ (a_ (h:=wo_nil (e_ (h:=aft_normal (wa_ (wc_region (w_ (f_ (h:=w_ (l_ (h:=w_ (m_ (h:=?_)))))))))))))))))
          first | refine ip (hc:=mkf_Cts (1 + (cn_Nds pl : Nat)) l (by omega) (by omega)) (h:=?_) | refine iq (hc:=mkf_Cts (1 + (cn_Nds pl : Nat)) l (by omega) (by omega)) (h:=?_) | refine ip (hc:=mkf_Cts (1 + (cn_Nds pl : Nat) + (cn_Cts l : Nat)) m (by omega) (by omega)) (h:=?_) | refine iq (hc:=mkf_Cts (1 + (cn_Nds pl : Nat) + (cn_Cts l : Nat)) m (by omega) (by omega)) (h:=?_) | refine ip (hc:=mkf_Cts 1 (adN pl l m).2 (by omega) (by omega)) (h:=?_) | refine iq (hc:=mkf_Cts 1 (adN pl l m).2 (by omega) (by omega)) (h:=?_)
          refine w_ (a_ (h:=wo_nil (e_ (h:=aft_normal (wa_ (wc_region (w_ (m_ (h:=w_ (a_ (h:=wo_nil (e_ (h:=aft_normal (wc_ret (?_)))))))))))))))
          exact ⟨by simp,_,rfl,rfl,rfl⟩
         refine ⟨_,(by (simp;rfl)),?_⟩
         refine w_ (a_ (h:=wo_nil (e_ (h:=aft_normal (wa_ (wc_region (w_ (a_ (h:=wo_nil (e_ (h:=aft_normal (wa_ (wc_region (w_ (l_ (h:=w_ (m_ (h:=?_))))))))))))))))))
         refine w_ (ca (hc:=e_heldCr (adN pl l m).1 1 (adN pl l m).2 (by omega) (by omega)) (h:=w_ (a_ (h:=wo_nil (e_ (h:=aft_normal (wa_ (wa_ (wc_region (w_ (m_ (h:=w_ (b_ (h:=wo_nil (e_ (h:=aft_normal (?_)))))))))))))))))
         refine c_ (h1:=?_) (h2:=?_)
         rotate_right 1
         focus
          intro c10
          first
          | exact dn c10
          | (
           have d10 := c10;try simp at d10
           refine wc_skip (?_)
           )
         rotate_right 1
         focus
          intro c10
          first
          | exact dn c10
          | (
           have d10 := c10;try simp at d10
           refine wa_ (wc_region (w_ (a_ (h:=wo_nil (e_ (h:=aft_normal (wc_ret (?_))))))))
           )
         all_goals first
         | refine aft_ret ?_
         | (
          refine aft_normal ?_
          refine wa_ (wa_ (wc_region (w_ (m_ (h:=w_ (m_ (h:=w_ (bE (h:=wo_nil (e_ (h:=aft_normal (?_))))))))))))
          refine c_ (h1:=?_) (h2:=?_)
          rotate_right 1
          focus
           intro c11
           first
           | exact dn c11
           | (
            have d11 := c11;try simp at d11
            refine wc_skip (?_)
            )
          rotate_right 1
          focus
           intro c11
           first
           | exact dn c11
           | (
            have d11 := c11;try simp at d11
            refine wa_ (wc_region (w_ (a_ (h:=wo_nil (e_ (h:=aft_normal (wc_ret (?_))))))))
            )
          all_goals first
          | refine aft_ret ?_
          | (
           refine aft_normal ?_
           refine wa_ (wc_region (w_ (m_ (h:=w_ (ca (hc:=e_toNS pl 0 h1 h2) (h:=w_ (m_ (h:=?_))))))))
           first | refine w_ (ca (hc:=to_Cts l (by omega)) (h:=?_)) | refine w_ (ca (hc:=to_Cts m (by omega)) (h:=?_))
           refine w_ (m_ (h:=?_))
           first | refine w_ (ca (hc:=to_Cts l (by omega)) (h:=?_)) | refine w_ (ca (hc:=to_Cts m (by omega)) (h:=?_))
           refine w_ (ca (hc:=e_adI pl l m h1 h2) (h:=w_ (al (h:=w0 (s_ (h:=wo_nil (e_ (h:=aft_normal (wa_ (wa_ (wc_region (w_ (l_ (h:=w_ (l_ (h:=w_ (ca (hc:=e_eqCr (adN pl l m) (adN pl l m) hc hc) (h:=w_ (u_ (h:=?_))))))))))))))))))))
           refine wo_nil (e_ (h:=aft_normal (?_)))
           refine c_ (h1:=?_) (h2:=?_)
           rotate_right 1
           focus
            intro c12
            first
            | exact dn c12
            | (
             have d12 := c12;try simp at d12
             refine wc_skip (?_)
             )
           rotate_right 1
           focus
            intro c12
            first
            | exact dn c12
            | (
             have d12 := c12;try simp at d12
             refine wa_ (wc_region (w_ (a_ (h:=wo_nil (e_ (h:=aft_normal (wc_ret (?_))))))))
             )
           all_goals first
           | refine aft_ret ?_
           | (
            refine aft_normal ?_
            refine wa_ (wc_region (w_ (a_ (h:=wo_nil (e_ (h:=aft_normal (wa_ (wc_region (w_ (l_ (h:=w_ (m_ (h:=w_ (ca (hc:=e_heldCr (adN pl l m).1 1 (adN pl l m).2 (by omega) (by omega)) (h:=w_ (a_ (h:=wo_nil (e_ (h:=?_)))))))))))))))))))
            refine aft_normal (wa_ (wa_ (wc_region (w_ (m_ (h:=w_ (b_ (h:=wo_nil (e_ (h:=aft_normal (?_)))))))))))
            refine c_ (h1:=?_) (h2:=?_)
            rotate_right 1
            focus
             intro c13
             first
             | exact dn c13
             | (
              have d13 := c13;try simp at d13
              refine wc_skip (?_)
              )
            rotate_right 1
            focus
             intro c13
             first
             | exact dn c13
             | (
              have d13 := c13;try simp at d13
              refine wa_ (wc_region (w_ (a_ (h:=wo_nil (e_ (h:=aft_normal (wc_ret (?_))))))))
              )
            all_goals first
            | refine aft_ret ?_
            | (
             refine aft_normal ?_
             refine wa_ (wa_ (wc_region (w_ (m_ (h:=w_ (m_ (h:=w_ (bE (h:=wo_nil (e_ (h:=aft_normal (?_))))))))))))
             refine c_ (h1:=?_) (h2:=?_)
             rotate_right 1
             focus
              intro c14
              first
              | exact dn c14
              | (
               have d14 := c14;try simp at d14
               refine wc_skip (?_)
               )
             rotate_right 1
             focus
              intro c14
              first
              | exact dn c14
              | (
               have d14 := c14;try simp at d14
               refine wa_ (wc_region (w_ (a_ (h:=wo_nil (e_ (h:=aft_normal (wc_ret (?_))))))))
               )
             all_goals first
             | refine aft_ret ?_
             | (
              refine aft_normal ?_
              refine wa_ (wc_region (w_ (a_ (h:=wo_nil (e_ (h:=aft_normal (wc_ret (?_))))))))
              )
             )
            )
           )
          )
         )
        )
       )
      )
     )
    )
   )
  )
 all_goals (refine fin_ (hr:=(res_tmp rfl res_nil)) (h:=?_);(focus (simp)))
end Go.Proofs.Ytgkbmiaimjpbfaa.Ev
