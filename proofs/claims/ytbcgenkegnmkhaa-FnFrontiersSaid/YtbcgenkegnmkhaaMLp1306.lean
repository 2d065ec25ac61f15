/- Part 6 of the proof that the law named in the last part returns true at every argument: an evaluator of the program, shown sound, and its runs. No further conditions. -/
import Derived.Test.YtbcgenkegnmkhaaMLp1305
namespace Go.Proofs.Ytbcgenkegnmkhaa.Ev
open Go
set_option maxRecDepth 100000
set_option linter.unusedSimpArgs false
set_option linter.unusedVariables false
set_option maxHeartbeats 2000000
section
variable {call : Call} {id base n : Nat} {e : List (Nat × V)} {o : List (Nat × Ob)} {t : TypeId} {K : V→List (Nat × Ob)→Prop}
theorem kA_new {args : Array Operand} {ts : Array TypeId} {t1 t2 e1 e2 : TypeId} {z : V} {q p m vq vp : Nat} {xs : List V} {o1 : List (Nat × Ob)} (hx : opsV e args.toList = some [.ref q 0 0,.ref p 0 m] := by exact rfl) (h1 : ts[0]? = some t1 := by exact rfl) (h2 : ts[1]? = some t2 := by exact rfl) (he1 : cf.elem t1 = some e1 := by exact tys_ok.elem _ _ rfl) (hz : cf.zero e1 = some z := by exact tys_ok.zero _ _ rfl) (he2 : cf.elem t2 = some e2 := by exact tys_ok.elem _ _ rfl)
    (hq : geta o q = some ⟨false,false,z.cells,[],vq⟩ := by exact rfl) (hp : geta o p = some ⟨false,false,z.cells,xs,vp⟩ := by exact rfl) (hm : m = xs.length := by first | rfl | simp) (h0 : 0 < m := by first | omega | (simp <;> omega)) (hlt : m < maxV := by (simp [maxV] <;> omega)) (hd : dela o q = o1 := by (simp;rfl))
    (h : K (.ref id 0 m) ((id,⟨true,true,z.cells,lodRow p vp 0 xs,0⟩) :: o1)) : opKA call cf 1 id base e o n t (.call ⟨.builtin .append,args,ts⟩) K := by
  subst hd
  refine ⟨_,_,?_,h⟩
  have hlen := lodRow_len (o:=p) (ver:=vp) (xs:=xs) (i:=0)
  subst hm
  have hA : appendA cf ⟨e,o,n⟩ t1 id base (.ref q 0 0) (.ref p 0 xs.length) = some (.ref id 0 xs.length,⟨e,(id,⟨true,true,z.cells,lodRow p vp 0 xs,0⟩) :: dela o q,n⟩) := by
    simp only [appendA,he1,Option.bind_some,hz,St.baseA,hq,Bool.false_eq_true,false_and,if_false,St.elemsA,hp,true_and,if_true,St.base,St.give,Nat.add_zero,List.length_nil,Nat.le_refl,and_self,List.drop_nil,List.take_nil,hlen,h0,hlt,St.new,puta]
  simp only [opA,opB,hx,h1,h2,he2,Option.isSome_some,if_true,hA]
theorem kA_app {args : Array Operand} {ts : Array TypeId} {t1 t2 e1 e2 : TypeId} {z : V} {q p m m2 sp vq vp : Nat} {xs ys : List V} {o1 : List (Nat × Ob)} (hx : opsV e args.toList = some [.ref q 0 m,.ref p 0 m2] := by exact rfl) (h1 : ts[0]? = some t1 := by exact rfl) (h2 : ts[1]? = some t2 := by exact rfl) (he1 : cf.elem t1 = some e1 := by exact tys_ok.elem _ _ rfl) (hz : cf.zero e1 = some z := by exact tys_ok.zero _ _ rfl) (he2 : cf.elem t2 = some e2 := by exact tys_ok.elem _ _ rfl)
    (hq : geta o q = some ⟨true,true,z.cells,xs,vq⟩ := by exact rfl) (hp : geta o p = some ⟨false,false,sp,ys,vp⟩ := by exact rfl) (hne : q ≠ p := by decide) (hbase : base≤p := by (simp <;> omega)) (hm : m = xs.length := by first | rfl | simp) (hm2 : m2 = ys.length := by first | rfl | simp) (h0 : 0 < ys.length := by simp) (hc : V.cellsAll z.cells ys = true := by (simp [*];try rfl)) {m3 : Nat} (hm3 : (xs ++ ys).length = m3) (hlt : m3 < maxV := by (simp [maxV] <;> omega)) (hd : dela (dela o p) q = o1 := by (simp;rfl))
    (h : K (.ref id 0 m3) ((id,⟨true,true,z.cells,xs ++ ys,0⟩) :: o1)) : opKA call cf 1 id base e o n t (.call ⟨.builtin .append,args,ts⟩) K := by
  subst hd hm hm2 hm3
  refine ⟨_,_,?_,h⟩
  have hq2 : geta (dela o p) q = some ⟨true,true,z.cells,xs,vq⟩ := by rw [geta_dela_ne hne];exact hq
  have hA : appendA cf ⟨e,o,n⟩ t1 id base (.ref q 0 xs.length) (.ref p 0 ys.length) = some (.ref id 0 (xs ++ ys).length,⟨e,(id,⟨true,true,z.cells,xs ++ ys,0⟩) :: dela (dela o p) q,n⟩) := by
    simp only [appendA,he1,Option.bind_some,hz,St.baseA,hq,and_self,if_true,St.elems,if_pos hbase,St.give,hp,Nat.zero_add,Nat.le_refl,List.drop_zero,List.take_length,mp_some,hq2,hc,h0,hlt,St.new,puta]
  simp only [opA,opB,hx,h1,h2,he2,Option.isSome_some,if_true,hA]
theorem kA_ix {t' el : TypeId} {x ix : Operand} {k : IntKind} {a : Int} {q m j sz v : Nat} {xs : List V} {z y : V} (hx : opV e x = some (.ref q 0 m) := by exact rfl) (hi : opV e ix = some (.int k a) := by exact rfl) (he : cf.elem t' = some el := by exact tys_ok.elem _ _ rfl) (hz : cf.zero el = some z := by exact tys_ok.zero _ _ rfl) (hq : geta o q = some ⟨true,true,sz,xs,v⟩ := by exact rfl)
    (ha : a = (j : Int)) (hj : j < m) (hy : xs[j]? = some y) (hc : y.cells = z.cells) (h : K (.ptr q j []) o) : opKA call cf 1 id base e o n t (.indexAddr t' x ix) K := by
  subst ha
  refine ⟨_,_,?_,h⟩
  simp only [opA,opB,hx,hi,indexA,he,Option.bind_some,hz,Int.natCast_nonneg,if_true,Int.toNat_natCast,if_pos hj,hq,and_self,Nat.zero_add,hy,if_pos hc,mp_some]
theorem kA_call {args : Array Operand} {ts : Array TypeId} {fo : Operand} {f : FuncId} {q m sz v : Nat} {xs ys : List V} {k : IntKind} {r : Int} (hx : opsV e args.toList = some [.ref q 0 m] := by exact rfl) (hf : opV e fo = some (.clo f []) := by exact rfl) (hB : cf.inB f = false := by (rw [cf_in];rfl)) (hmd : cf.md f = [] := by (rw [cf_md];rfl)) (hq : geta o q = some ⟨true,true,sz,xs,v⟩ := by exact rfl)
    (hm : m = xs.length := by first | rfl | simp) (h0 : 0 < m := by first | omega | (simp <;> omega)) (hs : V.snapL ⟨[],o,n⟩ xs = some ys) (hc : call f [.lst false 0 ys] = some (.int k r,[])) (h : K (.int k r) o) : opKA call cf 1 id base e o n t (.call ⟨.value fo,args,ts⟩) K := by
  refine ⟨_,_,?_,h⟩
  have hs' : V.snapL ⟨e,o,n⟩ xs = some ys := (snapL_re e ⟨[],o,n⟩ xs).trans hs
  have hb : opB cf 1 id base ⟨e,o,n⟩ (.call ⟨.value fo,args,ts⟩) = none := by simp only [opB,hx]
  have ha : alCall ⟨e,o,n⟩ (.call ⟨.value fo,args,ts⟩) = some (f,[.ref q 0 m]) := by simp only [alCall,hx,hf,hq,and_self,if_true]
  subst hm
  simp only [opA,hb,ha,callA,hmd,hB,and_self,if_true,hq,h0,hs',hc,mp_some]
theorem kA_mv {x : Operand} {q lo m : Nat} {o1 : List (Nat × Ob)} (hx : opV e x = some (.ref q lo m) := by exact rfl) (hu : St.unalias ⟨e,o,n⟩ q = some ⟨e,o1,n⟩) (h : K (.ref q lo m) o1) : opKA call cf 2 id base e o n t (.move x) K := by
  refine ⟨_,_,?_,h⟩
  simp only [opA,opB,if_true,hx,hu,mp_some]
end
theorem iv_subI {a b c : Int} (h : a - b = c) (h1 : -4000000000000000000≤c) (h2 : c < 4000000000000000000) : intV .sub .i64 a b = some (.int .i64 c) := by
  simp only [intV];rw [h,wrap_id (by omega) (by omega)]
theorem snap_lod {s : St} {p v : Nat} {sz : Nat} {bx fx : Bool} {l : List Nd} (h : geta s.obs p = some ⟨bx,fx,sz,nds true 1 l,v⟩) : ∀ (m : List Nd) (i : Nat),(∀ j x,m[j]? = some x→l[i + j]? = some x)→V.snapL s (lodRow p v i (nds true 1 m)) = some (nds false 0 m)
  | [],i,_ => rfl
  | x :: m,i,hm => by
    have hx : l[i]? = some x := by have := hm 0 x rfl;simpa using this
    have hg : Ob.get ⟨bx,fx,sz,nds true 1 l,v⟩ i [6] = some (.lst true 1 (ints x.cells)) := by
      have := nds_get (t:=true) (s:=1) hx
      simp only [Ob.get,this,Nd.v,getF,List.getElem?_cons_succ,List.getElem?_cons_zero]
    have hat : s.at p i [6] v x.cells.length = some (1,ints x.cells,⟨bx,fx,sz,nds true 1 l,v⟩) := by
      have hl : (ints x.cells).length = x.cells.length := by simp
      simp only [St.at,h,if_true,hg,hl]
    have ih := snap_lod h m (i + 1) (fun j y hj => by have := hm (j + 1) y hj;rw [← this];congr 1;omega)
    simp only [nds_cons,lodRow,V.snapL,ih,mp_some,Nd.v,V.lod,V.lodL,List.nil_append,Nat.zero_add,Nat.reduceAdd,V.snap,ints_len,hat,ints_share]
theorem fz_lod {p sz : Nat} : ∀ (m : List Nd) (i : Nat) (s : St) (xs : List V),geta s.obs p = some ⟨false,false,sz,xs,0⟩→(∀ j x,m[j]? = some x→xs[i + j]? = some (x.v true 1)) →
    ∃ L,(∀ x∈L,x.1 = p)∧V.fzIL (lodRow p 0 i (nds true 1 m)) s = some (nds true 1 m,⟨s.env,L ++ s.obs,s.nxt⟩)
  | [],i,s,xs,_,_ => ⟨[],fun _ h => (by cases h),rfl⟩
  | x :: m,i,s,xs,h,hm => by
    have hx : xs[i]? = some (x.v true 1) := by have := hm 0 x rfl;simpa using this
    have hlt : i < xs.length := (List.getElem?_eq_some_iff.1 hx).1
    have hg : Ob.get ⟨false,false,sz,xs,0⟩ i [6] = some (.lst true 1 (ints x.cells)) := by
      simp only [Ob.get,hx,Nd.v,getF,List.getElem?_cons_succ,List.getElem?_cons_zero]
    have hl : (ints x.cells).length = x.cells.length := by simp
    have hat : s.at p i [6] 0 x.cells.length = some (1,ints x.cells,⟨false,false,sz,xs,0⟩) := by
      simp only [St.at,h,if_true,hg,hl]
    obtain ⟨xu,hset⟩ : ∃ xu,Ob.set ⟨false,false,sz,xs,0⟩ i [6] .und = some ⟨false,false,sz,xs.set i xu,0⟩ := by
      simp only [Ob.set,hx,Nd.v,setF,List.getElem?_cons_succ,List.getElem?_cons_zero,mp_some]
      exact ⟨_,rfl⟩
    have htk : s.takeQ p i [6] 0 x.cells.length = some (1,ints x.cells,⟨s.env,(p,⟨false,false,sz,xs.set i xu,0⟩) :: s.obs,s.nxt⟩) := by
      simp only [St.takeQ,hat,hset,mp_some,puta]
    obtain ⟨L,hL,hr⟩ := fz_lod (p:=p) (sz:=sz) m (i + 1) ⟨s.env,(p,⟨false,false,sz,xs.set i xu,0⟩) :: s.obs,s.nxt⟩ (xs.set i xu) (by simp [geta]) (fun j y hj => by
      rw [List.getElem?_set_ne (by omega)]
      have := hm (j + 1) y hj
      rw [← this];congr 1;omega)
    refine ⟨L ++ [(p,⟨false,false,sz,xs.set i xu,0⟩)],fun y hy => ?_,?_⟩
    · rcases List.mem_append.1 hy with hy | hy
      · exact hL y hy
      · simp at hy;rw [hy]
    · have h1 : V.fzI ((x.v true 1).lod p i 0 []) s = some (x.v true 1,⟨s.env,(p,⟨false,false,sz,xs.set i xu,0⟩) :: s.obs,s.nxt⟩) := by
        simp only [Nd.v,V.lod,V.lodL,List.nil_append,Nat.zero_add,Nat.reduceAdd,V.fzI,V.fzIL,V.fz,mp_some,ints_len,htk]
      simp only [nds_cons,lodRow,V.fzIL,h1,hr,mp_some,List.append_assoc,List.singleton_append]
theorem fzIL_app : ∀ {a b : List V} {s s1 s2 : St} {x y : List V},V.fzIL a s = some (x,s1)→V.fzIL b s1 = some (y,s2)→V.fzIL (a ++ b) s = some (x ++ y,s2)
  | [],b,s,s1,s2,x,y,h1,h2 => by simp only [V.fzIL,Option.some.injEq,Prod.mk.injEq] at h1;obtain ⟨rfl,rfl⟩ := h1;exact h2
  | v :: a,b,s,s1,s2,x,y,h1,h2 => by
    simp only [V.fzIL] at h1
    cases hv : v.fzI s with
    | none => rw [hv] at h1;cases h1
    | some r =>
      rw [hv] at h1
      simp only at h1
      cases ha : V.fzIL a r.2 with
      | none => rw [ha] at h1;cases h1
      | some q =>
        rw [ha] at h1
        simp only [mp_some,Option.some.injEq,Prod.mk.injEq] at h1
        obtain ⟨rfl,rfl⟩ := h1
        have := fzIL_app (b:=b) (s:=r.2) (s1:=q.2) (x:=q.1) ha h2
        simp only [List.cons_append,V.fzIL,hv,this,mp_some]
theorem unalias_nds {e : List (Nat × V)} {o : List (Nat × Ob)} {n q p sz v : Nat} {l : List Nd} {x : Nd} (hq : geta o q = some ⟨true,true,sz,lodRow p 0 0 (nds true 1 l) ++ [x.v true 1],v⟩) (hp : geta (dela o q) p = some ⟨false,false,7,nds true 1 l,0⟩) :
    ∃ L,(∀ x∈L,x.1 = p)∧St.unalias ⟨e,o,n⟩ q = some ⟨e,(q,⟨false,false,sz,nds true 1 (l ++ [x]),v + 1⟩) :: (L ++ dela o q),n⟩ := by
  obtain ⟨L,hL,hr⟩ := fz_lod (p:=p) (sz:=7) l 0 ⟨e,dela o q,n⟩ (nds true 1 l) hp (fun j y hj => by rw [Nat.zero_add];exact nds_get hj)
  refine ⟨L,hL,?_⟩
  have h1 : V.fzIL [x.v true 1] ⟨e,L ++ dela o q,n⟩ = some ([x.v true 1],⟨e,L ++ dela o q,n⟩) := by
    simp only [V.fzIL,Nd.v,V.fzI,V.fz,mp_some]
  have h2 := fzIL_app hr h1
  simp only [St.unalias,hq,and_self,if_true,h2,puta,nds_snoc]
theorem snap_row {s : St} {p v sz : Nat} {bx fx : Bool} {l : List Nd} {x : Nd} (h : geta s.obs p = some ⟨bx,fx,sz,nds true 1 l,v⟩) : V.snapL s (lodRow p v 0 (nds true 1 l) ++ [x.v true 1]) = some (nds false 0 (l ++ [x])) := by
  have h1 := snap_lod h l 0 (fun j y hj => by rw [Nat.zero_add];exact hj)
  have app : ∀ {a b x y : List V},V.snapL s a = some x→V.snapL s b = some y→V.snapL s (a ++ b) = some (x ++ y) := by
    intro a
    induction a with
    | nil => intro b x y h1 h2;simp only [V.snapL,Option.some.injEq] at h1;subst h1;exact h2
    | cons v a ih =>
      intro b x y h1 h2
      simp only [V.snapL] at h1
      cases hv : v.snap s with
      | none => rw [hv] at h1;cases h1
      | some r =>
        rw [hv] at h1
        simp only at h1
        cases ha : V.snapL s a with
        | none => rw [ha] at h1;cases h1
        | some q =>
          rw [ha] at h1
          simp only [mp_some,Option.some.injEq] at h1
          subst h1
          simp only [List.cons_append,V.snapL,hv,ih ha h2,mp_some]
  rw [app h1 (show V.snapL s [x.v true 1] = some [x.v false 0] by simp [V.snapL,mp])]
  simp
theorem kA_un {call : Call} {id base n : Nat} {e : List (Nat × V)} {o : List (Nat × Ob)} {t : TypeId} {K : V→List (Nat × Ob)→Prop} {x : Operand} {q m p sz v : Nat} {l : List Nd} {y : Nd} {o1 : List (Nat × Ob)} (hx : opV e x = some (.ref q 0 m) := by exact rfl) (hq : geta o q = some ⟨true,true,sz,lodRow p 0 0 (nds true 1 l) ++ [y.v true 1],v⟩ := by exact rfl) (hd : dela o q = o1 := by (simp;rfl)) (hp : geta o1 p = some ⟨false,false,7,nds true 1 l,0⟩ := by exact rfl)
    (h : ∀ L : List (Nat × Ob),(∀ x∈L,x.1 = p)→K (.ref q 0 m) ((q,⟨false,false,sz,nds true 1 (l ++ [y]),v + 1⟩) :: (L ++ o1))) : opKA call cf 2 id base e o n t (.move x) K := by
  subst hd
  obtain ⟨L,hL,hu⟩ := unalias_nds (e:=e) (n:=n) hq hp
  exact kA_mv hx hu (h L hL)
theorem geta_skip {α : Type} {L r : List (Nat × α)} {p k : Nat} (hL : ∀ x∈L,x.1 = p) (hk : p ≠ k) : geta (L ++ r) k = geta r k := by
  induction L with
  | nil => rfl
  | cons x L ih =>
    obtain ⟨a,b⟩ := x
    have : a = p := hL (a,b) (List.mem_cons_self ..)
    subst this
    simp only [List.cons_append,geta,if_neg hk,ih (fun y hy => hL y (List.mem_cons_of_mem _ hy))]
@[simp] theorem Nd_thaw (n : Nd) (id : Nat) : V.thaw id (n.v true 1) = (.agg [.int .i64 n.op,.int .i64 n.a,.int .i64 n.b,.int .i64 n.col,.int .i64 n.test,.int .i64 n.value,.ref id 0 n.cells.length],[(id,⟨false,false,1,ints n.cells,0⟩)],id + 1) := Nd.thawT 1 n id
theorem tidyL_ints1 : ∀ l : List Int,V.tidyL (ints l) = true
  | [] => rfl
  | x :: l => by have := tidyL_ints1 l;simp only [ints,List.map_cons,V.tidyL,V.tidy,Bool.true_and] at this ⊢;exact this
@[simp] theorem Nd_tidy (n : Nd) : V.tidy (n.v true 1) = true := by simp [Nd.v,V.tidy,V.tidyL,tidyL_ints1]
@[simp] theorem srcV_tidy (c : List Int) (a : Nat) : V.tidy (srcV c a) = decide (c = []) := by cases c <;> simp [srcV,V.tidy,V.tidyL,bys]
def rightP (l : List Nd) : Prop := 1≤l.length∧l.length≤7∧(∀ d∈l,d.cells.length≤3)∧(lookN l).2 = 0
theorem rightP.ok {l : List Nd} (h : rightP l) : okN l := fun d hd => by have := h.2.2.1 d hd;omega
theorem right_snoc {l : List Nd} {x : Nd} (h : rightP l) (hl : l.length < 7) (hx : x.cells.length≤3) (h0 : (lookN (l ++ [x])).2 = 0) : rightP (l ++ [x]) :=
  ⟨by simp,by simp;omega,fun d hd => by
    rcases List.mem_append.1 hd with hd | hd
    · exact h.2.2.1 d hd
    · simp at hd;rw [hd];exact hx,h0⟩
theorem geta_renObsQ {ρ : Nat→Option Nat} {vr : Nat→Nat} {q k : Nat} (hq : ρ q = some k) (inj : ∀ o,ρ o = some k→o = q) : ∀ {O : List (Nat × Ob)} {ob : Ob},geta O q = some ob→geta (renObs ρ vr O) k = some ⟨ob.bx,ob.fx,ob.sz,if ob.bx = true then V.renL ρ vr ob.xs else ob.xs,0⟩
  | [],ob,h => by cases h
  | (o,b) :: r,ob,h => by
    simp only [geta] at h
    split at h
    · rename_i e
      subst e
      cases h
      simp only [renObs,hq,geta,if_true]
    · rename_i e
      have ih := geta_renObsQ (vr:=vr) hq inj h
      simp only [renObs]
      cases ho : ρ o with
      | none => exact ih
      | some k' =>
        simp only [geta]
        rw [if_neg (fun e2 => e (inj o (by rw [ho,e2])))]
        exact ih
theorem norm_draw {E : List (Nat × V)} {O : List (Nat × Ob)} {m q k m3 v0 v1 : Nat} {c : List Int} {a : Nat} {pl : List Nd} (h0 : geta E 0 = some (.ptr 0 0 [])) (h3 : geta E 3 = some (.ref q 0 m3)) (h4 : geta E 4 = some (.int .i64 k)) (g0 : geta O 0 = some ⟨true,false,2,[srcV c a],v0⟩) (gq : geta O q = some ⟨false,false,7,nds true 1 pl,v1⟩) (hm : m3 = pl.length) (hq : 1≤q) :
    normE 1 (some [0,3,4]) ⟨E,O,m⟩ = ⟨[(0,.ptr 0 0 []),(3,.ref 1 0 pl.length),(4,.int .i64 k)],[(0,⟨true,false,2,[srcV c a],0⟩),(1,⟨false,false,7,nds true 1 pl,0⟩)],2⟩ := by
  subst hm
  have hids : liveIds 1 (keepEnv [0,3,4] E) O = [q] := by
    simp [liveIds,keepEnv,h0,h3,h4,V.mention,boxesOf,g0,gq,nodups,srcV_mention,V.mentionL,hq]
  have r0 : renOf 1 [q] 0 = some 0 := by simp [renOf]
  have rq : renOf 1 [q] q = some 1 := by simp [renOf,posOf];omega
  have i0 : ∀ o,renOf 1 [q] o = some 0→o = 0 := by
    intro o ho
    simp only [renOf,posOf] at ho
    split at ho
    · cases ho;rfl
    · split at ho <;> simp at ho
  have i1 : ∀ o,renOf 1 [q] o = some 1→o = q := by
    intro o ho
    simp only [renOf,posOf] at ho
    split at ho
    · cases ho;omega
    · split at ho
      · rename_i h;exact h.symm
      · cases ho
  have e0 := geta_renObsQ (vr:=verOf O) r0 i0 g0
  have e1 := geta_renObsQ (vr:=verOf O) rq i1 gq
  simp only [normE,hids,List.length_singleton,sortObs,e0,e1,Option.elim_some,Nat.reduceAdd]
  simp [keepEnv,h0,h3,h4,V.ren,r0,rq,srcV_ren,V.renL,show ¬ q = 0 by omega]
theorem l_drawE (c : List Int) (hc : okS c) : ∀ x : Nat × Nat × (List Nd),(x.1 < 10∧x.2.1 + 25 * x.1 < 600000000∧rightP x.2.2)→∀ s,normE 1 (some [0,3,4]) s = ⟨[(0,.ptr 0 0 []),(3,.ref 1 0 x.2.2.length),(4,.int .i64 x.1)],[(0,⟨true,false,2,[srcV c x.2.1],0⟩),(1,⟨false,false,7,nds true 1 x.2.2,0⟩)],2⟩ →
 ∃ r,oc.loop 71 5 s = some r∧(∃ (pl' : List Nd) (a' : Nat),r = (.exit 0,⟨[(3,.ref 1 0 pl'.length)],[(0,⟨true,false,2,[srcV c a'],0⟩),(1,⟨false,false,7,nds true 1 pl',0⟩)],2⟩)∧rightP pl'∧a'≤x.2.1 + 25 * x.1) := by
 refine loop_indE (σ:=Nat × Nat × (List Nd)) (fun x => x.1) _ (fun x => ⟨[(0,.ptr 0 0 []),(3,.ref 1 0 x.2.2.length),(4,.int .i64 x.1)],[(0,⟨true,false,2,[srcV c x.2.1],0⟩),(1,⟨false,false,7,nds true 1 x.2.2,0⟩)],2⟩) (fun x r => ∃ (pl' : List Nd) (a' : Nat),r = (.exit 0,⟨[(3,.ref 1 0 pl'.length)],[(0,⟨true,false,2,[srcV c a'],0⟩),(1,⟨false,false,7,nds true 1 pl',0⟩)],2⟩)∧rightP pl'∧a'≤x.2.1 + 25 * x.1) ?_
 rintro ⟨k,a,pl⟩ hi ih s hs
 simp only at hi
 refine loop_sE (Q:=fun r => ∃ (pl' : List Nd) (a' : Nat),r = (.exit 0,⟨[(3,.ref 1 0 pl'.length)],[(0,⟨true,false,2,[srcV c a'],0⟩),(1,⟨false,false,7,nds true 1 pl',0⟩)],2⟩)∧rightP pl'∧a'≤a + 25 * k) cd71 rfl rfl hs ?_
 obtain ⟨hi1,hi2,hi3⟩ := hi
 have hi3' := hi3
 obtain ⟨r1,r2,r3,r4⟩ := hi3'
 have hok := hi3.ok
 obtain ⟨hg1,hg2,hg3,hg4⟩ := look_good hok r4
 obtain ⟨N,hN⟩ : ∃ N,pl.length = N := ⟨_,rfl⟩
 have hn0 := e_next c a 11 hc (by omega) (by omega)
 have hop0 := nxtV_in (c:=c) (a:=a) (n:=11) (by omega)
 obtain ⟨op,hop⟩ : ∃ op : Nat,nxtV c a 11 = (op : Int) := ⟨(nxtV c a 11).toNat,by omega⟩
 rw [hop] at hn0 hop0
 obtain ⟨q1,q2⟩ := nxtV_in (c:=c) (a:=a + 1) (n:=pl.length) (by omega)
 obtain ⟨A,hA⟩ : ∃ A : Nat,nxtV c (a + 1) pl.length = (A : Int) := ⟨(nxtV c (a + 1) pl.length).toNat,by omega⟩
 have hAl : A < (widN pl).length := by omega
 have hw := e_l3WidthI pl (widN pl) (by omega) hg1 A (by omega) (by omega)
 have hw2 := hg3 A (by omega)
 obtain ⟨w,hww⟩ : ∃ w : Nat,at0 (widN pl) (A : Int) = (w : Int) := ⟨(at0 (widN pl) (A : Int)).toNat,by omega⟩
 rw [hww] at hw hw2
 obtain ⟨q3,q4⟩ := nxtV_in (c:=c) (a:=a + 2) (n:=3) (by omega)
 obtain ⟨j,hj⟩ : ∃ j : Nat,nxtV c (a + 2) 3 = (j : Int) := ⟨(nxtV c (a + 2) 3).toNat,by omega⟩
 have hnx := e_next c (a + 1) pl.length hc (by omega) (by omega)
 rw [hA] at hnx
 have hnj := e_next c (a + 2) 3 hc (by omega) (by omega)
 rw [hj] at hnj
 have hll := lodRow_len (o:=1) (ver:=0) (xs:=nds true 1 pl) (i:=0)
 have hlast : ∀ y : V,(lodRow 1 0 0 (nds true 1 pl) ++ [y])[pl.length]? = some y := fun y => by rw [List.getElem?_append_right (by rw [hll];simp)];simp [hll]
 have hwl : IntKind.i64.wrap ((pl.length : Int) + 1 - 1) = (pl.length : Int) := by rw [wrap_id (by omega) (by omega)];omega
 have hstep : ∀ {E : List (Nat × V)} {O : List (Nat × Ob)} {m q m3 v0 v1 a' k' : Nat} {pl' : List Nd},geta E 0 = some (.ptr 0 0 [])→geta E 3 = some (.ref q 0 m3)→geta E 4 = some (.int .i64 (k' : Nat))→geta O 0 = some ⟨true,false,2,[srcV c a'],v0⟩→geta O q = some ⟨false,false,7,nds true 1 pl',v1⟩→1≤q→m3 = pl'.length→k' + 1 = k→rightP pl'→a'≤a + 25→a + 25 * k < 600000000→∃ r,oc.loop 71 5 ⟨E,O,m⟩ = some r∧∃ (pl' : List Nd) (a' : Nat),r = (.exit 0,⟨[(3,.ref 1 0 pl'.length)],[(0,⟨true,false,2,[srcV c a'],0⟩),(1,⟨false,false,7,nds true 1 pl',0⟩)],2⟩)∧rightP pl'∧a'≤a + 25 * k := (by intro E O m q m3 v0 v1 a' k' pl' h0 h3 h4 g0 gq hq hm hk hr ha hb;exact (ih (k',a',pl') ⟨by simp only;omega,by simp only;omega,hr⟩ (by simp only;omega) _ (norm_draw h0 h3 h4 g0 gq hm hq)).imp (fun r h => ⟨h.1,let ⟨x,y,e,h1,h2⟩ := h.2;⟨x,y,e,h1,by simp only at h2;omega⟩⟩))
 have hwl2 : IntKind.i64.wrap (pl.length : Int) = (pl.length : Int) := wrap_id (by omega) (by omega)
 have hnk := e_next c (a + 2) pl.length hc (by omega) (by omega)
 refine wa_ (wa_ (wc_region (w_ (m_ (h:=w_ (b_ (h:=w_ (m_ (h:=?_)))))))))
 refine gw_ (h1:=?_) (h2:=?_)
 rotate_right 1
 focus
  intro c1
  first
  | exact dn c1
  | (
   have d1 := c1;try simp at d1
   refine go_ (h:=go_ (h:=go_ (h:=?_)))
   )
 rotate_right 1
 focus
  intro c1
  first
  | exact dn c1
  | (
   have d1 := c1;try simp at d1
   refine g_ (h:=w_ (m_ (h:=g_ (h:=w_ (le (h:=g_ (h:=w_ (b_ (h:=?_)))))))))
   )
 all_goals
  refine w_ (pk (h:=wo_nil (e_ (h:=?_))))
 all_goals first
 | (
  refine aft_normal ?_
  refine c_ (h1:=?_) (h2:=?_)
  rotate_right 1
  focus
   intro c2
   first
   | exact dn c2
   | (
    have d2 := c2;try simp at d2
    refine wc_exit (?_)
    )
  rotate_right 1
  focus
   intro c2
   first
   | exact dn c2
   | (
    have d2 := c2;try simp at d2
    refine wc_skip (?_)
    )
  )
 all_goals first
 | refine aft_exit ?_
 | (
  refine aft_normal ?_
  refine wa_ (wc_block (wa_ (wc_told (h:=wA (oA (h:=bs (h:=wA (oA (h:=m_ (h:=wA (?_)))))))))))
  refine kA_new (h:=?_)
  refine wA (oA (h:=m_ (h:=wA (oA (h:=m_ (h:=?_))))))
  refine iA cd115 rfl (h:=?_)
  refine wa_ (wc_region (w_ (al (h:=wo_nil (e_ (h:=aft_normal (wa_ (wc_region (w_ (m_ (h:=w_ (le (h:=w_ (a_ (h:=wo_nil (e_ (h:=aft_normal (?_))))))))))))))))))
  refine wa_ (wc_region (w_ (m_ (h:=w_ (cP (hc:=hn0) (h:=w_ (b_ (h:=w_ (m_ (h:=w_ (m_ (h:=w_ (cP (hc:=hnx) (h:=w_ (bd (h:=w_ (al (h:=w0 (s_ (h:=wo_nil (e_ (h:=?_))))))))))))))))))))))
  refine aft_normal (wa_ (wc_region (w_ (m_ (h:=w_ (f_ (h:=w_ (l_ (h:=w_ (ca (hc:=hw) (h:=w_ (a_ (h:=wo_nil (e_ (h:=aft_normal (wa_ (wa_ (?_))))))))))))))))))
  refine wc_region (w_ (f_ (h:=w_ (l_ (h:=wo_nil (e_ (h:=aft_normal (wc_block (wa_ (wc_region (w_ (bE (h:=w_ (a_ (h:=wo_nil (e_ (h:=aft_normal (?_))))))))))))))))))
  refine c_ (h1:=?_) (h2:=?_)
  rotate_right 1
  focus
   intro c3
   first
   | exact dn c3
   | (
    have d3 := c3;try simp at d3
    refine wa_ (wc_region (w_ (bE (h:=w_ (a_ (h:=wo_nil (e_ (h:=aft_normal (?_)))))))))
    refine c_ (h1:=?_) (h2:=?_)
    rotate_right 1
    focus
     intro c4
     first
     | exact dn c4
     | (
      have d4 := c4;try simp at d4
      refine wa_ (wc_region (w_ (bE (h:=w_ (a_ (h:=wo_nil (e_ (h:=aft_normal (?_)))))))))
      refine c_ (h1:=?_) (h2:=?_)
      rotate_right 1
      focus
       intro c5
       first
       | exact dn c5
       | (
        have d5 := c5;try simp at d5
        refine wa_ (wc_region (w_ (bE (h:=w_ (a_ (h:=wo_nil (e_ (h:=aft_normal (?_)))))))))
        refine c_ (h1:=?_) (h2:=?_)
        rotate_right 1
        focus
         intro c6
         first
         | exact dn c6
         | (
          have d6 := c6;try simp at d6
          refine wa_ (wc_region (w_ (bE (h:=w_ (a_ (h:=wo_nil (e_ (h:=aft_normal (?_)))))))))
          refine c_ (h1:=?_) (h2:=?_)
          rotate_right 1
          focus
           intro c7
           first
           | exact dn c7
           | (
            have d7 := c7;try simp at d7
            refine wa_ (wa_ (wc_region (w_ (bE (h:=w_ (a_ (h:=wo_nil (e_ (h:=aft_normal (?_))))))))))
            refine c_ (h1:=?_) (h2:=?_)
            rotate_right 1
            focus
             intro c8
             first
             | exact dn c8
             | (
              have d8 := c8;try simp at d8
              refine wa_ (wc_region (w_ (bE (h:=w_ (a_ (h:=wo_nil (e_ (h:=aft_normal (?_)))))))))
              refine c_ (h1:=?_) (h2:=?_)
              rotate_right 1
              focus
               intro c9
               first
               | exact dn c9
               | (
                have d9 := c9;try simp at d9
                refine wc_region (w_ (bE (h:=w_ (a_ (h:=wo_nil (e_ (h:=?_)))))))
                )
              rotate_right 1
              focus
               intro c9
               first
               | exact dn c9
               | (
                have d9 := c9;try simp at d9
                refine wc_skip (?_)
                )
              )
            rotate_right 1
            focus
             intro c8
             first
             | exact dn c8
             | (
              have d8 := c8;try simp at d8
              refine wc_skip (?_)
              )
            all_goals first
            | (
             refine aft_normal ?_
             refine c_ (h1:=?_) (h2:=?_)
             rotate_right 1
             focus
              intro c10
              first
              | exact dn c10
              | (
               have d10 := c10;try simp at d10
               refine wc_skip (?_)
               )
             rotate_right 1
             focus
              intro c10
              first
              | exact dn c10
              | (
               have d10 := c10;try simp at d10
               refine wc_region (w_ (m_ (h:=w_ (m_ (h:=w_ (cP (hc:=e_next c (a + 2) w hc (by omega) (by omega)) (h:=w_ (f_ (h:=w0 (s_ (h:=wo_nil (e_ (h:=?_)))))))))))))
               )
             )
            )
          rotate_right 1
          focus
           intro c7
           first
           | exact dn c7
           | (
            have d7 := c7;try simp at d7
            refine wc_region (w_ (m_ (h:=w_ (m_ (h:=w_ (?_))))))
            refine b_ (hv:=iv_addI (c:=(w : Int) + 1) rfl (by omega) (by omega)) (h:=?_)
            refine w_ (cP (hc:=e_next c (a + 2) ((w : Int) + 1) hc (by omega) (by omega)) (h:=w_ (f_ (h:=w0 (s_ (h:=wo_nil (e_ (h:=?_))))))))
            )
          )
        rotate_right 1
        focus
         intro c6
         first
         | exact dn c6
         | (
          have d6 := c6;try simp at d6
          refine wa_ (wc_region (w_ (m_ (h:=w_ (m_ (h:=w_ (cP (hc:=hnk) (h:=w_ (f_ (h:=w0 (s_ (h:=wo_nil (e_ (h:=aft_normal (wc_region (w_ (m_ (h:=w_ (m_ (h:=?_))))))))))))))))))))
          refine w_ (cP (hc:=e_next c (a + 3) w hc (by omega) (by omega)) (h:=w_ (b_ (h:=w_ (f_ (h:=w0 (s_ (h:=wo_nil (e_ (h:=?_))))))))))
          )
        )
      rotate_right 1
      focus
       intro c5
       first
       | exact dn c5
       | (
        have d5 := c5;try simp at d5
        refine wc_region (w_ (m_ (h:=w_ (m_ (h:=w_ (cP (hc:=hnk) (h:=w_ (f_ (h:=w0 (s_ (h:=wo_nil (e_ (h:=?_)))))))))))))
        )
      )
    rotate_right 1
    focus
     intro c4
     first
     | exact dn c4
     | (
      have d4 := c4;try simp at d4
      refine wa_ (wc_region (w_ (m_ (h:=w_ (cP (hc:=hnj) (h:=w_ (?_)))))))
      refine b_ (hv:=iv_addI (c:=((j + 1 : Nat) : Int)) (by omega) (by omega) (by omega)) (h:=?_)
      refine w_ (a_ (h:=wo_nil (e_ (h:=aft_normal (wc_block (?_))))))
      refine uL cd115 rfl rfl ?_
      refine wa_ (wa_ (wc_region (w_ (m_ (h:=w_ (b_ (h:=wo_nil (e_ (h:=aft_normal (?_))))))))))
      refine c_ (h1:=?_) (h2:=?_)
      rotate_right 1
      focus
       intro c11
       first
       | exact dn c11
       | (
        have d11 := c11;try simp at d11
        exfalso;simp at c11;omega
        )
      rotate_right 1
      focus
       intro c11
       first
       | exact dn c11
       | (
        have d11 := c11;try simp at d11
        refine wc_skip (?_)
        )
      all_goals first
      | refine aft_exit ?_
      | (
       refine aft_normal ?_
       refine wa_ (wc_block (wc_draw (y_ (f_ (h:=ax_ (h:=y_ (l_ (h:=ax_ (h:=y_ (m_ (h:=ax_ (h:=y_ (m_ (h:=ax_ (h:=?_)))))))))))))))
       first | refine y_ (cP (hc:=e_next c (a + 3) w hc (by omega) (by omega)) (h:=?_)) | refine y_ (cP (hc:=e_next c (a + 3 + 1) w hc (by omega) (by omega)) (h:=?_)) | refine y_ (cP (hc:=e_next c (a + 3 + 1 + 1) w hc (by omega) (by omega)) (h:=?_))
       refine ax_ (h:=y_ (bs (h:=ax_ (h:=y_ (ap (h:=ax_ (h:=y_ (f_ (h:=ax_ (h:=y0 (s_ (h:=ax_ (h:=wo_nil (ed (h:=blk_normal (aft_normal (wc_region (w_ (m_ (h:=w_ (?_)))))))))))))))))))))
       refine b_ (hv:=iv_subI rfl (by omega) (by omega)) (h:=?_)
       refine w_ (a_ (h:=wo_nil (e_ (h:=?_))))
       )
      all_goals first
      | refine uX ?_
      | (
       refine uN ?_
       refine uL cd115 rfl rfl ?_
       refine wa_ (wa_ (wc_region (w_ (m_ (h:=w_ (b_ (h:=wo_nil (e_ (h:=aft_normal (?_))))))))))
       refine c_ (h1:=?_) (h2:=?_)
       rotate_right 1
       focus
        intro c12
        first
        | exact dn c12
        | (
         have d12 := c12;try simp at d12
         refine wc_exit (?_)
         )
       rotate_right 1
       focus
        intro c12
        first
        | exact dn c12
        | (
         have d12 := c12;try simp at d12
         refine wc_skip (?_)
         )
       all_goals first
       | refine aft_exit ?_
       | (
        refine aft_normal ?_
        refine wa_ (wc_block (wc_draw (y_ (f_ (h:=ax_ (h:=y_ (l_ (h:=ax_ (h:=y_ (m_ (h:=ax_ (h:=y_ (m_ (h:=ax_ (h:=?_)))))))))))))))
        first | refine y_ (cP (hc:=e_next c (a + 3) w hc (by omega) (by omega)) (h:=?_)) | refine y_ (cP (hc:=e_next c (a + 3 + 1) w hc (by omega) (by omega)) (h:=?_)) | refine y_ (cP (hc:=e_next c (a + 3 + 1 + 1) w hc (by omega) (by omega)) (h:=?_))
        refine ax_ (h:=y_ (bs (h:=ax_ (h:=y_ (ap (h:=ax_ (h:=y_ (f_ (h:=ax_ (h:=y0 (s_ (h:=ax_ (h:=wo_nil (ed (h:=blk_normal (aft_normal (wc_region (w_ (m_ (h:=w_ (?_)))))))))))))))))))))
        refine b_ (hv:=iv_subI rfl (by omega) (by omega)) (h:=?_)
        refine w_ (a_ (h:=wo_nil (e_ (h:=?_))))
        )
       all_goals first
       | refine uX ?_
       | (
        refine uN ?_
        refine uL cd115 rfl rfl ?_
        refine wa_ (wa_ (wc_region (w_ (m_ (h:=w_ (b_ (h:=wo_nil (e_ (h:=aft_normal (?_))))))))))
        refine c_ (h1:=?_) (h2:=?_)
        rotate_right 1
        focus
         intro c13
         first
         | exact dn c13
         | (
          have d13 := c13;try simp at d13
          refine wc_exit (?_)
          )
        rotate_right 1
        focus
         intro c13
         first
         | exact dn c13
         | (
          have d13 := c13;try simp at d13
          refine wc_skip (?_)
          )
        all_goals first
        | refine aft_exit ?_
        | (
         refine aft_normal ?_
         refine wa_ (wc_block (wc_draw (y_ (f_ (h:=ax_ (h:=y_ (l_ (h:=ax_ (h:=y_ (m_ (h:=ax_ (h:=y_ (m_ (h:=ax_ (h:=?_)))))))))))))))
         first | refine y_ (cP (hc:=e_next c (a + 3) w hc (by omega) (by omega)) (h:=?_)) | refine y_ (cP (hc:=e_next c (a + 3 + 1) w hc (by omega) (by omega)) (h:=?_)) | refine y_ (cP (hc:=e_next c (a + 3 + 1 + 1) w hc (by omega) (by omega)) (h:=?_))
         refine ax_ (h:=y_ (bs (h:=ax_ (h:=y_ (ap (h:=ax_ (h:=y_ (f_ (h:=ax_ (h:=y0 (s_ (h:=ax_ (h:=wo_nil (ed (h:=blk_normal (aft_normal (wc_region (w_ (m_ (h:=w_ (?_)))))))))))))))))))))
         refine b_ (hv:=iv_subI rfl (by omega) (by omega)) (h:=?_)
         refine w_ (a_ (h:=wo_nil (e_ (h:=?_))))
         )
        all_goals first
        | refine uX ?_
        | (
         refine uN ?_
         refine uL cd115 rfl rfl ?_
         refine wa_ (wa_ (wc_region (w_ (m_ (h:=w_ (b_ (h:=wo_nil (e_ (h:=aft_normal (?_))))))))))
         refine c_ (h1:=?_) (h2:=?_)
         rotate_right 1
         focus
          intro c14
          first
          | exact dn c14
          | (
           have d14 := c14;try simp at d14
           refine wc_exit (?_)
           )
         rotate_right 1
         focus
          intro c14
          first
          | exact dn c14
          | (
           have d14 := c14;try simp at d14
           exfalso;simp at c14;omega
           )
         all_goals first
         | refine aft_exit ?_
         | (
          refine aft_normal ?_
          refine wa_ (wc_block (wc_draw (y_ (f_ (h:=ax_ (h:=y_ (l_ (h:=ax_ (h:=y_ (m_ (h:=ax_ (h:=y_ (m_ (h:=ax_ (h:=?_)))))))))))))))
          first | refine y_ (cP (hc:=e_next c (a + 3) w hc (by omega) (by omega)) (h:=?_)) | refine y_ (cP (hc:=e_next c (a + 3 + 1) w hc (by omega) (by omega)) (h:=?_)) | refine y_ (cP (hc:=e_next c (a + 3 + 1 + 1) w hc (by omega) (by omega)) (h:=?_))
          refine ax_ (h:=y_ (bs (h:=ax_ (h:=y_ (ap (h:=ax_ (h:=y_ (f_ (h:=ax_ (h:=y0 (s_ (h:=ax_ (h:=wo_nil (ed (h:=blk_normal (aft_normal (wc_region (w_ (m_ (h:=w_ (?_)))))))))))))))))))))
          refine b_ (hv:=iv_subI rfl (by omega) (by omega)) (h:=?_)
          refine w_ (a_ (h:=wo_nil (e_ (h:=?_))))
          )
         all_goals first
         | refine uX ?_
         )
        )
       )
      all_goals refine blk_exit ?_
      )
    )
  rotate_right 1
  focus
   intro c3
   first
   | exact dn c3
   | (
    have d3 := c3;try simp at d3
    refine wa_ (wc_region (w_ (m_ (h:=w_ (m_ (h:=w_ (cP (hc:=e_next c (a + 2) w hc (by omega) (by omega)) (h:=w_ (f_ (h:=w0 (s_ (h:=wo_nil (e_ (h:=aft_normal (wa_ (wc_region (w_ (m_ (h:=?_)))))))))))))))))))
    refine w_ (cP (hc:=e_next c (a + 3) 3 hc (by omega) (by omega)) (h:=w_ (f_ (h:=w0 (s_ (h:=wo_nil (e_ (h:=aft_normal (wc_region (w_ (m_ (h:=w_ (cP (hc:=e_next c (a + 4) 4 hc (by omega) (by omega)) (h:=w_ (f_ (h:=w0 (s_ (h:=wo_nil (e_ (h:=?_))))))))))))))))))))
    )
  all_goals refine blk_normal ?_
  all_goals first
  | (
   refine aft_normal ?_
   refine wa_ (wc_region (w_ (l_ (h:=w0 (s_ (h:=wo_nil (e_ (h:=aft_normal (wc_ret (?_))))))))))
   )
  all_goals (refine ⟨by simp,_,(res_cell (tys_ok.zero _ _ rfl) rfl (by simp;rfl) (by rfl) res_nil),by simp,?_⟩)
  all_goals
   refine wA (oA (h:=bs (h:=wA (?_))))
   first | refine kA_app (ys:=[Nd.v true 1 ⟨_,_,_,_,_,_,[]⟩]) (m3:=pl.length + 1) (hm:=by rw [hll];simp) (hm3:=by simp [hll]) (h:=?_) | refine kA_app (ys:=[Nd.v true 1 ⟨_,_,_,_,_,_,[_]⟩]) (m3:=pl.length + 1) (hm:=by rw [hll];simp) (hm3:=by simp [hll]) (h:=?_) | refine kA_app (ys:=[Nd.v true 1 ⟨_,_,_,_,_,_,[_,_]⟩]) (m3:=pl.length + 1) (hm:=by rw [hll];simp) (hm3:=by simp [hll]) (h:=?_) | refine kA_app (ys:=[Nd.v true 1 ⟨_,_,_,_,_,_,[_,_,_]⟩]) (m3:=pl.length + 1) (hm:=by rw [hll];simp) (hm3:=by simp [hll]) (h:=?_)
   refine wA (oA (h:=a_ (h:=nA (h:=?_))))
  all_goals first
  | (
   refine aft_normal ?_
   refine wa_ (wc_told (h:=wA (oA (h:=m_ (h:=wA (oA (h:=m_ (h:=wA (oA (h:=le (h:=wA (oA (h:=b_ (h:=wA (?_)))))))))))))))
   refine kA_ix (j:=pl.length) (ha:=by first | (simp [hwl];done) | (simp [hwl2];done)) (hj:=by simp) (hy:=hlast _) (hc:=by rfl) (h:=?_)
   refine wA (?_)
   refine oA (h:=f_ (h1:=k_fieldAddrF rfl rfl (hlast _) rfl (fieldT_ok tys_ok (Y:=tys) rfl) ⟨rfl,rfl⟩) (h:=?_))
   refine wA (?_)
   refine oA (h:=l_ (h1:=k_loadF (tys_ok.zero _ _ rfl) rfl rfl (hlast _) rfl (by simp) rfl rfl ⟨rfl,rfl⟩) (h:=?_))
   refine wA (oA (h:=bE (h:=wA (oA (h:=m_ (h:=?_))))))
   refine gwA (h1:=?_) (h2:=?_)
   rotate_right 1
   focus
    intro c15
    first
    | exact dn c15
    | (
     have d15 := c15;try simp at d15
     refine goA (h:=goA (h:=goA (h:=?_)))
     )
   rotate_right 1
   focus
    intro c15
    first
    | exact dn c15
    | (
     have d15 := c15;try simp at d15
     refine gA (h:=wA (oA (h:=m_ (h:=gA (h:=wA (?_))))))
     refine kA_call (hm:=by simp [hll]) (hs:=snap_row (by rfl)) (hc:=e_planS (pl ++ [_]) (by simp;omega) (by intro d hd;rcases List.mem_append.1 hd with hd | hd;exact hok d hd;(simp at hd;subst hd;simp))) (h:=?_)
     refine gA (h:=wA (oA (h:=bE (h:=?_))))
     )
   all_goals
    refine wA (oA (h:=pk (h:=nA (h:=?_))))
   all_goals first
   | (
    refine aft_normal ?_
    refine c_ (h1:=?_) (h2:=?_)
    rotate_right 1
    focus
     intro c16
     first
     | exact dn c16
     | (
      have d16 := c16;try simp at d16
      refine wc_skip (?_)
      )
    rotate_right 1
    focus
     intro c16
     first
     | exact dn c16
     | (
      have d16 := c16;try simp at d16
      refine wc_told (h:=wA (?_))
      refine kA_un (h:=?_);intro L hL
      refine wA (oA (h:=a_ (h:=nA (h:=?_))))
      )
    )
   )
  all_goals refine blk_normal ?_
  all_goals first
  | (
   refine aft_normal ?_
   refine wc_region (w_ (m_ (h:=w_ (?_))))
   refine b_ (hv:=iv_sub (c:=k - 1) (by omega) (by omega)) (h:=?_)
   refine w_ (a_ (h:=wo_nil (e_ (h:=?_))))
   )
  )
 all_goals first
 | ((refine ⟨pl,a,?_,hi3,by omega⟩;refine congrArg (Prod.mk _) ?_;show normE 1 (some [3]) _ = _;simp [normE]))
 | (exact hstep rfl rfl rfl rfl rfl (by first | decide | (simp;done) | (simp;omega)) rfl (by simp at *;omega) hi3 (by omega) (by omega))
 | (exact hstep rfl rfl rfl ((geta_skip hL (by decide)).trans rfl) rfl (by first | decide | (simp;done) | (simp;omega)) (by simp) (by simp at *;omega) (right_snoc hi3 (by simp at *;omega) (by simp) (by simp at *;assumption)) (by omega) (by omega))
end Go.Proofs.Ytbcgenkegnmkhaa.Ev
namespace Go.Proofs.Ytbcgenkegnmkhaa.Ev
open Go
set_option maxRecDepth 100000
set_option linter.unusedSimpArgs false
set_option linter.unusedVariables false
set_option maxHeartbeats 2000000
section
variable {call : Call} {id base : Nat} {e : List (Nat × V)} {o : List (Nat × Ob)} {n : Nat} {t : TypeId} {K : V→List (Nat × Ob)→Prop}
theorem apP {args : Array Operand} {ts : Array TypeId} {t1 t2 e1 e2 : TypeId} {y z : V} {ys ws bs : List V} {r1 : Option (List V × St)} {sz : Nat} {o1 : List (Nat × Ob)} {id' q j ver m m2 : Nat} {fs : List Nat} {ob : Ob} {x xu : V} (hx : opsV e args.toList = some [.plc q j fs ver m,y] := by exact rfl) (h1 : ts[0]? = some t1 := by exact rfl) (h2 : ts[1]? = some t2 := by exact rfl) (he1 : cf.elem t1 = some e1 := by exact tys_ok.elem _ _ rfl) (hz : cf.zero e1 = some z := by exact tys_ok.zero _ _ rfl) (he2 : cf.elem t2 = some e2 := by exact tys_ok.elem _ _ rfl)
    (hel : St.elems ⟨[],o,n⟩ base y = r1 := by (simp;rfl)) (hel2 : r1 = some (ys,⟨[],o1,n⟩) := by rfl) (ho : geta o1 q = some ob := by exact rfl) (hv : ob.ver = ver := by rfl) (hg : ob.xs[j]? = some x := by first | assumption | exact set_at (by assumption)) (hgf : getF x fs = some (.lst true sz bs) := by exact rfl) (hl : bs.length = m := by first | rfl | simp) (hsu : setF x fs .und = some xu := by exact rfl)
    (hid : id = id' := by ((try simp);rfl)) (hsz : sz = z.cells := by rfl) (hc : V.cellsAll z.cells ys = true := by (simp [*];try rfl)) (hw : bs ++ ys = ws := by ((try simp);rfl)) (hm : ws.length = m2 := by ((try simp);rfl)) (hlen : m2 < maxV := by (simp <;> omega))
    (h : K (.ref id' 0 m2) ((id',⟨false,false,z.cells,ws,0⟩) :: (q,⟨ob.bx,ob.fx,ob.sz,ob.xs.set j xu,ver + 1⟩) :: o1)) : opK call cf id base e o n t (.call ⟨.builtin .append,args,ts⟩) K := by
  subst hl hv
  have hget : ob.get j fs = some (.lst true sz bs) := by simp only [Ob.get,hg,hgf]
  have hset : ob.set j fs .und = some { ob with xs := ob.xs.set j xu } := by simp only [Ob.set,hg,hsu,mp_some]
  have hat : St.at ⟨[],o1,n⟩ q j fs ob.ver bs.length = some (sz,bs,ob) := by simp only [St.at,ho,hget,if_true]
  have htk : St.take ⟨[],o1,n⟩ q j fs ob.ver bs.length = some (sz,bs,⟨[],(q,⟨ob.bx,ob.fx,ob.sz,ob.xs.set j xu,ob.ver + 1⟩) :: o1,n⟩) := by simp only [St.take,hat,hset,mp_some,puta]
  exact k_appendS hx h1 h2 he1 hz he2 hel hel2 htk rfl hid hsz hc hw hm hlen h
end
theorem run_sE {Q : V × List V→Prop} {f : FuncId} {fn : Func} {body : Code} {args : List V} {e : List (Nat × V)} {o : List (Nat × Ob)} {n : Nat} (hf : cf.code f = some fn) (hb : fn.body = some body) (hl : args.length = n) (hl2 : n = fn.params.size + fn.nfree) (he : (bindArgs 0 args).1 = e) (ho : (bindArgs 0 args).2 = o)
    (h : wpC oc cf f body ⟨e,o,n⟩ (fun e s => (e = .normal∨e = .ret)∧∃ vs,resL cf s fn.results.toList = some vs∧∃ r,V.fzL vs ⟨[],s.obs,s.nxt⟩ = r∧∃ q,r = some q∧∃ os,outsV 0 args q.2 = some os∧Q (oneV q.1,os))) : ∃ r,runE oc cf f args = some r∧Q r := by
  obtain ⟨r,h1,h2,vs,h3,q,h4,u,h5,os,h6,h7⟩ := h
  exact ⟨_,run_s hf hb hl hl2 he ho ⟨r,h1,h2,vs,h3,q,h4,u,h5,os,h6,rfl⟩,h7⟩
theorem right1 {v : Int} (h : v = 1∨v = 2) : rightP [⟨1,0,0,v,0,0,[]⟩] := by
  refine ⟨by simp,by simp,by simp,?_⟩
  rcases h with rfl | rfl <;> rfl
theorem right2 {v u : Int} (h : v = 1∨v = 2) (h2 : u = 1∨u = 2) : rightP [⟨1,0,0,v,0,0,[]⟩,⟨1,0,0,u,0,0,[]⟩] := by
  refine ⟨by simp,by simp,by simp,?_⟩
  rcases h with rfl | rfl <;> rcases h2 with rfl | rfl <;> rfl
def planP (l : List Nd) : Prop := l.length≤9∧∀ d∈l,d.cells.length≤4
theorem planP.ok {l : List Nd} (h : planP l) : okN l := fun d hd => by have := h.2 d hd;omega
theorem e_drawE (c : List Int) (a : Nat) (hc : okS c) (ha : a < 500000000) : ∃ r,oc.call 71 [.iop (srcV c a)] = some r∧(∃ (pl : List Nd) (a' : Nat),r = (.lst true 7 (nds true 1 pl),[srcV c a'])∧1≤pl.length∧pl.length≤8∧(∀ d∈pl,d.cells.length≤3)∧a'≤a + 300) := by
 refine fun_sE (Q:=fun r => ∃ (pl : List Nd) (a' : Nat),r = (.lst true 7 (nds true 1 pl),[srcV c a'])∧1≤pl.length∧pl.length≤8∧(∀ d∈pl,d.cells.length≤3)∧a'≤a + 300) rfl cd71 rfl rfl rfl (by simp;rfl) (by simp;rfl) ?_
 have x1 := nxtV_in (c:=c) (a:=a) (n:=2) (by omega)
 obtain ⟨v1,hv1⟩ : ∃ v : Int,1 + nxtV c a 2 = v := ⟨_,rfl⟩
 have x2 := nxtV_in (c:=c) (a:=a + 2) (n:=2) (by omega)
 obtain ⟨v2,hv2⟩ : ∃ v : Int,1 + nxtV c (a + 2) 2 = v := ⟨_,rfl⟩
 have x3 := nxtV_in (c:=c) (a:=a + 2) (n:=6) (by omega)
 have x4 := nxtV_in (c:=c) (a:=a + 3) (n:=6) (by omega)
 obtain ⟨k1,hk1⟩ : ∃ k : Nat,nxtV c (a + 2) 6 = (k : Int) := ⟨(nxtV c (a + 2) 6).toNat,by omega⟩
 obtain ⟨k2,hk2⟩ : ∃ k : Nat,nxtV c (a + 3) 6 = (k : Int) := ⟨(nxtV c (a + 3) 6).toNat,by omega⟩
 have hn1 := e_next c (a + 2) 6 hc (by omega) (by omega)
 have hn2 := e_next c (a + 3) 6 hc (by omega) (by omega)
 rw [hk1] at hn1
 rw [hk2] at hn2
 refine wa_ (wc_region (w_ (aN (h:=wo_nil (e_ (h:=aft_normal (wa_ (wc_region (w_ (m_ (h:=w_ (cP (hc:=e_next c a 2 hc (by omega) (by omega)) (h:=w_ (?_))))))))))))))
 refine b_ (hv:=iv_addI hv1 (by omega) (by omega)) (h:=?_)
 refine w_ (bd (h:=w_ (bs (h:=w_ (a_ (h:=wo_nil (e_ (h:=aft_normal (wa_ (wa_ (wc_region (w_ (m_ (h:=w_ (cP (hc:=e_chance c (a + 1) 2 hc (by omega) (by omega)) (h:=wo_nil (e_ (h:=aft_normal (?_)))))))))))))))))))
 refine c_ (h1:=?_) (h2:=?_)
 rotate_right 1
 focus
  intro c1
  refine wc_skip (?_)
 rotate_right 1
 focus
  intro c1
  refine wc_region (w_ (m_ (h:=w_ (m_ (h:=w_ (cP (hc:=e_next c (a + 2) 2 hc (by omega) (by omega)) (h:=w_ (?_))))))))
  refine b_ (hv:=iv_addI hv2 (by omega) (by omega)) (h:=?_)
  refine w_ (bd (h:=w_ (bs (h:=w_ (ap (h:=w_ (a_ (h:=wo_nil (e_ (h:=?_))))))))))
 all_goals first
 | (
  refine aft_normal ?_
  refine wa_ (wa_ (wc_region (w_ (m_ (h:=?_)))))
  first | refine w_ (cP (hc:=hn1) (h:=?_)) | refine w_ (cP (hc:=hn2) (h:=?_))
  refine w_ (a_ (h:=wo_nil (e_ (h:=aft_normal (wc_block (?_))))))
  refine wc_loopE (by first | exact l_drawE c hc (k1,a + 3,[_]) ⟨by simp only;omega,by simp only;omega,right1 (v:=v1) (by omega)⟩ _ (norm_draw (by rfl) (by rfl) (by rfl) (by rfl) (by rfl) (by simp) (by first | decide | (simp;done) | (simp;omega))) | exact l_drawE c hc (k2,a + 4,[_,_]) ⟨by simp only;omega,by simp only;omega,right2 (v:=v1) (u:=v2) (by omega) (by omega)⟩ _ (norm_draw (by rfl) (by rfl) (by rfl) (by rfl) (by rfl) (by simp) (by first | decide | (simp;done) | (simp;omega)))) ?_
  rintro _ _ ⟨pl2,a2,⟨⟩,⟨g1,g2,g3,g4⟩,h2⟩
  refine blk_exit (aft_normal (wa_ (wc_region (w_ (m_ (h:=w_ (m_ (h:=w_ (le (h:=w_ (b_ (h:=w_ (bd (h:=w_ (bs (h:=w_ (ap (h:=w_ (a_ (h:=?_))))))))))))))))))))
  refine wo_nil (e_ (h:=aft_normal (wa_ (wc_region (w_ (m_ (h:=w_ (a_ (h:=wo_nil (e_ (h:=aft_normal (wc_ret (?_)))))))))))))
  )
 all_goals (refine fin_E (Q:=fun r => ∃ (pl : List Nd) (a' : Nat),r = (.lst true 7 (nds true 1 pl),[srcV c a'])∧1≤pl.length∧pl.length≤8∧(∀ d∈pl,d.cells.length≤3)∧a'≤a + 300) (hr:=(res_tmp rfl res_nil)) (h:=?_);(focus (simp at h2;refine ⟨pl2 ++ [⟨12,IntKind.i64.wrap ((pl2.length : Int) - 1),0,0,0,0,[]⟩],a2,?_,by simp,by simp;omega,?_,by omega⟩;(focus (simp;rw [List.take_of_length_le (by simp)];simp [nds,Nd.v]));(intro d hd;rcases List.mem_append.1 hd with hd | hd;(focus (exact g3 d hd));(simp at hd;subst hd;simp)))))
theorem plan_set {pl : List Nd} {i : Nat} {q : Nd} (g2 : pl.length≤8) (g3 : ∀ d∈pl,d.cells.length≤3) (hq : q.cells.length≤4) : planP (pl.set i q) := ⟨by simp;omega,fun x hx => by
  rcases List.mem_or_eq_of_mem_set hx with hx | rfl
  · have := g3 x hx;omega
  · exact hq⟩
theorem pick9 (c : List Int) (a : Nat) : ∃ m : Nat,at0 [0,9] (nxtV c a ([0,9] : List Int).length) = (m : Int)∧m≤9 := by
  have := nxtV_in (c:=c) (a:=a) (n:=(([0,9] : List Int).length : Nat)) (by simp)
  simp at this
  rcases (by omega : nxtV c a 2 = 0∨nxtV c a 2 = 1) with h | h
  · exact ⟨0,by simp [h,at0],by omega⟩
  · exact ⟨9,by simp [h,at0],by omega⟩
theorem e_bentE0 (c : List Int) (a : Nat) (hc : okS c) (ha : a < 400000000) : ∃ r,runE oc cf 32 [.iop (srcV c a)] = some r∧(∃ (pl : List Nd) (a' : Nat),r = (.lst true 7 (nds true 1 pl),[srcV c a'])∧planP pl∧a'≤a + 400) := by
 refine run_sE (Q:=fun r => ∃ (pl : List Nd) (a' : Nat),r = (.lst true 7 (nds true 1 pl),[srcV c a'])∧planP pl∧a'≤a + 400) cd32 rfl rfl rfl (by simp;rfl) (by simp;rfl) ?_
 obtain ⟨_,hd,pl,a1,rfl,g1,g2,g3,ha1⟩ := e_drawE c a hc (by omega)
 have x1 := nxtV_in (c:=c) (a:=a1) (n:=pl.length) (by omega)
 obtain ⟨i,hi⟩ : ∃ i : Nat,nxtV c a1 pl.length = (i : Int) := ⟨(nxtV c a1 pl.length).toNat,by omega⟩
 have hn1 := e_next c a1 pl.length hc (by omega) (by omega)
 rw [hi] at hn1 x1
 have hil : i < pl.length := by omega
 have hn2 := e_next c (a1 + 1) 24 hc (by omega) (by omega)
 have hn3 := e_next c (a1 + 2) 13 hc (by omega) (by omega)
 have hx0 := nds_get (t:=true) (s:=1) (show pl[i]? = some pl[i] by simp [hil])
 obtain ⟨d,hdd⟩ : ∃ d,pl[i] = d := ⟨_,rfl⟩
 have hdm : d.cells.length≤3 := by rw [← hdd];exact g3 _ (List.getElem_mem _)
 rw [hdd] at hx0
 obtain ⟨d1,d2,d3,d4,d5,d6,d7⟩ := d
 simp only at hdm
 have hset : ∀ q : Nd,q.cells.length≤4→planP (pl.set i q) := fun q hq => plan_set g2 g3 hq
 have hp4 : oc.call.noI.c 41 [.iop (srcV c (a1 + 2)),.lst true 1 (ints [0,-1,4])] = some (.int .i64 (at0 [0,-1,4] (nxtV c (a1 + 2) (3 : Nat))),[srcV c (a1 + 2 + 1)]) := e_pick c (a1 + 2) [0,-1,4] hc (by omega) (by simp) (by simp)
 have hp9 := e_pick c (a1 + 2) [0,9] hc (by omega) (by simp) (by simp)
 obtain ⟨m9,h9,h9'⟩ := pick9 c (a1 + 2)
 rw [h9] at hp9
 refine wa_ (wc_region (w_ (aN (h:=wo_nil (e_ (h:=aft_normal (wa_ (wc_region (w_ (m_ (h:=w_ (cP (hc:=hd) (h:=w_ (a_ (h:=wo_nil (e_ (h:=aft_normal (?_))))))))))))))))))
 refine wa_ (wc_region (w_ (m_ (h:=w_ (m_ (h:=w_ (le (h:=w_ (cP (hc:=hn1) (h:=w_ (a_ (h:=wo_nil (e_ (h:=aft_normal (wa_ (wa_ (wc_region (?_))))))))))))))))))
 refine w_ (m_ (h:=w_ (cP (hc:=hn2) (h:=wo_nil (e_ (h:=aft_normal (wc_block (wa_ (wc_region (w_ (bE (h:=w_ (a_ (h:=wo_nil (e_ (h:=aft_normal (?_)))))))))))))))))
 refine c_ (h1:=?_) (h2:=?_)
 rotate_right 1
 focus
  intro c1
  first
  | exact dn c1
  | (
   have d1 := c1;try simp at d1
   refine wa_ (wc_region (w_ (bE (h:=w_ (a_ (h:=wo_nil (e_ (h:=aft_normal (?_)))))))))
   refine c_ (h1:=?_) (h2:=?_)
   rotate_right 1
   focus
    intro c2
    first
    | exact dn c2
    | (
     have d2 := c2;try simp at d2
     refine wa_ (wc_region (w_ (bE (h:=w_ (a_ (h:=wo_nil (e_ (h:=aft_normal (?_)))))))))
     refine c_ (h1:=?_) (h2:=?_)
     rotate_right 1
     focus
      intro c3
      first
      | exact dn c3
      | (
       have d3 := c3;try simp at d3
       refine wa_ (wc_region (w_ (bE (h:=w_ (a_ (h:=wo_nil (e_ (h:=aft_normal (?_)))))))))
       refine c_ (h1:=?_) (h2:=?_)
       rotate_right 1
       focus
        intro c4
        first
        | exact dn c4
        | (
         have d4 := c4;try simp at d4
         refine wa_ (wc_region (w_ (bE (h:=w_ (a_ (h:=wo_nil (e_ (h:=aft_normal (?_)))))))))
         refine c_ (h1:=?_) (h2:=?_)
         rotate_right 1
         focus
          intro c5
          first
          | exact dn c5
          | (
           have d5 := c5;try simp at d5
           refine wa_ (wc_region (w_ (bE (h:=w_ (a_ (h:=wo_nil (e_ (h:=aft_normal (?_)))))))))
           refine c_ (h1:=?_) (h2:=?_)
           rotate_right 1
           focus
            intro c6
            first
            | exact dn c6
            | (
             have d6 := c6;try simp at d6
             refine wa_ (wc_region (w_ (bE (h:=w_ (a_ (h:=wo_nil (e_ (h:=aft_normal (?_)))))))))
             refine c_ (h1:=?_) (h2:=?_)
             rotate_right 1
             focus
              intro c7
              first
              | exact dn c7
              | (
               have d7 := c7;try simp at d7
               refine wa_ (wc_region (w_ (bE (h:=w_ (a_ (h:=wo_nil (e_ (h:=aft_normal (?_)))))))))
               refine c_ (h1:=?_) (h2:=?_)
               rotate_right 1
               focus
                intro c8
                first
                | exact dn c8
                | (
                 have d8 := c8;try simp at d8
                 refine wa_ (wc_region (w_ (bE (h:=w_ (a_ (h:=wo_nil (e_ (h:=aft_normal (?_)))))))))
                 refine c_ (h1:=?_) (h2:=?_)
                 rotate_right 1
                 focus
                  intro c9
                  first
                  | exact dn c9
                  | (
                   have d9 := c9;try simp at d9
                   refine wc_skip (?_)
                   )
                 rotate_right 1
                 focus
                  intro c9
                  first
                  | exact dn c9
                  | (
                   have d9 := c9;try simp at d9
                   refine wc_region (w_ (m_ (h:=w_ (bs (h:=w_ (cPT (hc:=hp9) (h:=w_ (mk (h:=w_ (a_ (h:=wo_nil (e_ (h:=?_)))))))))))))
                   )
                 )
               rotate_right 1
               focus
                intro c8
                first
                | exact dn c8
                | (
                 have d8 := c8;try simp at d8
                 refine wc_region (w_ (m_ (h:=w_ (m_ (h:=w_ (le (h:=w_ (b_ (h:=w_ (bd (h:=w_ (bs (h:=w_ (ap (h:=w_ (a_ (h:=wo_nil (e_ (h:=?_)))))))))))))))))))
                 )
               )
             rotate_right 1
             focus
              intro c7
              first
              | exact dn c7
              | (
               have d7 := c7;try simp at d7
               refine wc_region (w_ (m_ (h:=w_ (m_ (h:=w_ (m_ (h:=w_ (bs (h:=w_ (cPT (hc:=e_pick c (a1 + 2) [1000000000,1000000001,-1] hc (by omega) (by simp) (by simp)) (h:=w_ (x_ (h:=w_ (f_ (h:=w0 (s_ (h:=wo_nil (e_ (h:=?_)))))))))))))))))))
               )
             )
           rotate_right 1
           focus
            intro c6
            first
            | exact dn c6
            | (
             have d6 := c6;try simp at d6
             refine wc_region (w_ (m_ (h:=w_ (m_ (h:=w_ (m_ (h:=w_ (bs (h:=w_ (cPT (hc:=e_pick c (a1 + 2) [1,3] hc (by omega) (by simp) (by simp)) (h:=w_ (x_ (h:=w_ (f_ (h:=w0 (s_ (h:=wo_nil (e_ (h:=?_)))))))))))))))))))
             )
           )
         rotate_right 1
         focus
          intro c5
          first
          | exact dn c5
          | (
           have d5 := c5;try simp at d5
           refine wc_draw (y_ (m_ (h:=ax_ (h:=y_ (m_ (h:=ax_ (h:=y_ (m_ (h:=ax_ (h:=y_ (m_ (h:=ax_ (h:=y_ (x_ (h:=ax_ (h:=y_ (f_ (h:=ax_ (h:=y_ (l_ (h:=ax_ (h:=y_ (m_ (h:=ax_ (h:=y_ (bs (h:=ax_ (h:=y_ (cPT (hc:=hp4) (h:=ax_ (h:=y_ (bs (h:=ax_ (h:=?_))))))))))))))))))))))))))))))))))
           refine y_ (?_)
           refine apP (h:=?_)
           refine ax_ (h:=y_ (x_ (h:=ax_ (h:=y_ (f_ (h:=ax_ (h:=y0 (s_ (h:=ax_ (h:=wo_nil (ed (h:=?_))))))))))))
           )
         )
       rotate_right 1
       focus
        intro c4
        first
        | exact dn c4
        | (
         have d4 := c4;try simp at d4
         refine wc_region (w_ (m_ (h:=w_ (m_ (h:=w_ (m_ (h:=w_ (bs (h:=w_ (cPT (hc:=e_pick c (a1 + 2) [-1,0,4,3,1] hc (by omega) (by simp) (by simp)) (h:=w_ (x_ (h:=w_ (f_ (h:=w0 (s_ (h:=wo_nil (e_ (h:=?_)))))))))))))))))))
         )
       )
     rotate_right 1
     focus
      intro c3
      first
      | exact dn c3
      | (
       have d3 := c3;try simp at d3
       refine wc_region (w_ (m_ (h:=w_ (m_ (h:=w_ (m_ (h:=w_ (m_ (h:=w_ (bs (h:=w_ (cPT (hc:=e_pick c (a1 + 2) [-1,i,1] hc (by omega) (by simp) (by simp)) (h:=w_ (x_ (h:=w_ (f_ (h:=w0 (s_ (h:=wo_nil (e_ (h:=?_)))))))))))))))))))))
       )
     )
   rotate_right 1
   focus
    intro c2
    first
    | exact dn c2
    | (
     have d2 := c2;try simp at d2
     refine wc_region (w_ (m_ (h:=w_ (m_ (h:=w_ (m_ (h:=w_ (m_ (h:=w_ (bs (h:=w_ (cPT (hc:=e_pick c (a1 + 2) [-1,i,0,4611686018427387904] hc (by omega) (by simp) (by simp)) (h:=w_ (x_ (h:=w_ (f_ (h:=w0 (s_ (h:=wo_nil (e_ (h:=?_)))))))))))))))))))))
     )
   )
 rotate_right 1
 focus
  intro c1
  first
  | exact dn c1
  | (
   have d1 := c1;try simp at d1
   refine wc_region (w_ (m_ (h:=w_ (m_ (h:=w_ (m_ (h:=w_ (m_ (h:=w_ (cP (hc:=hn3) (h:=w_ (bs (h:=w_ (cPT (hc:=e_pick c (a1 + 3) [0,13,nxtV c (a1 + 2) 13] hc (by omega) (by simp) (by simp)) (h:=w_ (x_ (h:=w_ (f_ (h:=w0 (s_ (h:=wo_nil (e_ (h:=?_)))))))))))))))))))))))
   )
 all_goals refine blk_normal ?_
 all_goals first
 | (
  refine aft_normal ?_
  refine wa_ (wc_region (w_ (m_ (h:=w_ (a_ (h:=wo_nil (e_ (h:=aft_normal (wc_ret (?_))))))))))
  )
 all_goals (refine fin_E (Q:=fun r => ∃ (pl : List Nd) (a' : Nat),r = (.lst true 7 (nds true 1 pl),[srcV c a'])∧planP pl∧a'≤a + 400) (hr:=(res_tmp rfl res_nil)) (h:=?_);(focus (first | exact ⟨pl,_,rfl,⟨by omega,fun d hd => by have := g3 d hd;omega⟩,by omega⟩ | (rw [List.take_of_length_le (by simp)];exact ⟨_,_,rfl,hset _ (by first | exact Nat.le_succ_of_le hdm | (simp;omega)),by omega⟩) | exact ⟨pl ++ [⟨5,IntKind.i64.wrap ((pl.length : Int) - 1),0,0,0,0,[]⟩],a1 + 1 + 1,by (rw [List.take_of_length_le (by simp)];simp [nds,Nd.v,oneV];done),⟨by simp;omega,fun d hd => by (rcases List.mem_append.1 hd with hd | hd;(focus (have:=g3 d hd;omega));(simp at hd;subst hd;simp))⟩,by omega⟩ | exact ⟨List.replicate m9 ⟨0,0,0,0,0,0,[]⟩,a1 + 2 + 1,by (simp [nds,Nd.v,oneV];done),⟨by simp;omega,fun d hd => by (have:=(List.mem_replicate.1 hd).2;subst this;simp)⟩,by omega⟩)))
theorem e_bentE (c : List Int) (a : Nat) (hc : okS c) (ha : a < 400000000) : ∃ (pl : List Nd) (a' : Nat),oc.call 32 [.iop (srcV c a)] = some (.lst false 0 (nds false 0 pl),[srcV c a'])∧planP pl∧a'≤a + 400 := by
  obtain ⟨_,h,pl,a',rfl,hp,h2⟩ := e_bentE0 c a hc ha
  refine ⟨pl,a',?_,hp,h2⟩
  have := full_s (by rfl) (by rfl) (by rfl) h
  rw [this]
  simp [V.full]
end Go.Proofs.Ytbcgenkegnmkhaa.Ev
namespace Go.Proofs.Ytbcgenkegnmkhaa.Ev
open Go
set_option maxRecDepth 100000
set_option linter.unusedSimpArgs false
set_option linter.unusedVariables false
set_option maxHeartbeats 2000000
theorem leads_self {pl : List Nd} {n : Nat} {a : Int} : leadsF pl a (n + 1) a = true := by unfold leadsF;rw [if_pos rfl]
theorem isPl_iff {pl : List Nd} {a : Int} : isPl pl a = true↔0≤a∧a < 2 * pl.length := by simp [isPl,inI];omega
theorem leadsN_iff {pl : List Nd} (hr : (lookN pl).2 = 0) {a b : Int} : leadsN pl a b = true↔(0≤a∧a < 2 * pl.length)∧(0≤b∧b < 2 * pl.length)∧leadsF pl b (2 * pl.length) a = true := by
  simp only [leadsN,hr,decide_true,Bool.true_and,Bool.and_eq_true,isPl_iff]
theorem leadsN_self {pl : List Nd} (hr : (lookN pl).2 = 0) {a : Int} (h0 : 0≤a) (h : a < 2 * pl.length) : leadsN pl a a = true := by
  rw [leadsN_iff hr]
  obtain ⟨n,hn⟩ : ∃ n,2 * pl.length = n + 1 := ⟨2 * pl.length - 1,by omega⟩
  exact ⟨⟨h0,h⟩,⟨h0,h⟩,by rw [hn];exact leads_self⟩
theorem e_lwBig (c : List Int) (h : c.length < 400000000000000) : oc.call 6 [.lst false 0 (bys c)] = some (.bool (decide (1048576 < c.length)),[]) := by
 refine fun_s rfl cd6 rfl rfl rfl (by simp;rfl) (by simp;rfl) ?_
 refine wa_ (wc_region (w_ (a_ (h:=wo_nil (e_ (h:=aft_normal (wa_ (wc_region (w_ (m_ (h:=w_ (le (h:=w_ (b_ (h:=w_ (a_ (h:=wo_nil (e_ (h:=?_)))))))))))))))))))
 refine aft_normal (wc_ret (?_))
 all_goals (refine fin_ (hr:=(res_tmp rfl res_nil)) (h:=?_);(focus (simp;omega)))
theorem e_l1Max (a b : Int) : oc.call 73 [.int .i64 a,.int .i64 b] = some (.int .i64 (max a b),[]) := by
 refine fun_s rfl cd73 rfl rfl rfl (by simp;rfl) (by simp;rfl) ?_
 refine wa_ (wc_region (w_ (a_ (h:=wo_nil (e_ (h:=aft_normal (wa_ (wa_ (wc_region (w_ (m_ (h:=w_ (m_ (h:=w_ (b_ (h:=wo_nil (e_ (h:=?_))))))))))))))))))
 refine aft_normal (?_)
 refine c_ (h1:=?_) (h2:=?_)
 rotate_right 1
 focus
  intro c1
  first
  | exact dn c1
  | (
   have d1 := c1;try simp at d1
   refine wc_skip (?_)
   )
 rotate_right 1
 focus
  intro c1
  first
  | exact dn c1
  | (
   have d1 := c1;try simp at d1
   refine wa_ (wc_region (w_ (m_ (h:=w_ (a_ (h:=wo_nil (e_ (h:=aft_normal (wc_ret (?_))))))))))
   )
 all_goals first
 | refine aft_ret ?_
 | (
  refine aft_normal ?_
  refine wa_ (wc_region (w_ (m_ (h:=w_ (a_ (h:=wo_nil (e_ (h:=aft_normal (wc_ret (?_))))))))))
  )
 all_goals (refine fin_ (hr:=(res_tmp rfl res_nil)) (h:=?_);(focus (simp at *;omega)))
theorem l_chgE (c : List Int) (pl : List Nd) (hc : okS c) (hp : pl.length < 1000000) : ∀ x : Nat × Nat × (List Ct),(x.1 < 10∧x.2.1 + 3 * x.1 < 600000000∧x.2.2.length + x.1 < 1000)→∀ s,normE 2 (some [0,1,5,6]) s = ⟨[(0,.ptr 0 0 []),(1,.lst false 0 (nds false 0 pl)),(5,.ref 2 0 x.2.2.length),(6,.int .i64 x.1)],[(0,⟨true,false,2,[srcV c x.2.1],0⟩),(2,⟨false,false,3,cts x.2.2,0⟩)],3⟩ →
 ∃ r,oc.loop 39 3 s = some r∧(∃ (m' : List Ct) (a' : Nat),r = (.exit 0,⟨[(5,.ref 2 0 m'.length)],[(0,⟨true,false,2,[srcV c a'],0⟩),(2,⟨false,false,3,cts m',0⟩)],3⟩)∧m'.length≤x.2.2.length + x.1∧a'≤x.2.1 + 3 * x.1) := by
 refine loop_indE (σ:=Nat × Nat × (List Ct)) (fun x => x.1) _ (fun x => ⟨[(0,.ptr 0 0 []),(1,.lst false 0 (nds false 0 pl)),(5,.ref 2 0 x.2.2.length),(6,.int .i64 x.1)],[(0,⟨true,false,2,[srcV c x.2.1],0⟩),(2,⟨false,false,3,cts x.2.2,0⟩)],3⟩) (fun x r => ∃ (m' : List Ct) (a' : Nat),r = (.exit 0,⟨[(5,.ref 2 0 m'.length)],[(0,⟨true,false,2,[srcV c a'],0⟩),(2,⟨false,false,3,cts m',0⟩)],3⟩)∧m'.length≤x.2.2.length + x.1∧a'≤x.2.1 + 3 * x.1) ?_
 rintro ⟨k,a,m⟩ hi ih s hs
 simp only at hi
 refine loop_sE (Q:=fun r => ∃ (m' : List Ct) (a' : Nat),r = (.exit 0,⟨[(5,.ref 2 0 m'.length)],[(0,⟨true,false,2,[srcV c a'],0⟩),(2,⟨false,false,3,cts m',0⟩)],3⟩)∧m'.length≤m.length + k∧a'≤a + 3 * k) cd39 rfl rfl hs ?_
 obtain ⟨hi1,hi2,hi3⟩ := hi
 have hml : m.length < 2000 := by omega
 refine wa_ (wa_ (wc_region (w_ (m_ (h:=w_ (b_ (h:=wo_nil (e_ (h:=aft_normal (?_))))))))))
 refine c_ (h1:=?_) (h2:=?_)
 rotate_right 1
 focus
  intro c1
  first
  | exact dn c1
  | (
   have d1 := c1;try simp at d1
   refine wc_exit (?_)
   )
 rotate_right 1
 focus
  intro c1
  first
  | exact dn c1
  | (
   have d1 := c1;try simp at d1
   have hj : 0 < k := (by simp at c1;omega);obtain ⟨k,rfl⟩ : ∃ q,k = q + 1 := ⟨k - 1,by omega⟩
   refine wc_skip (?_)
   )
 all_goals first
 | refine aft_exit ?_
 | (
  refine aft_normal ?_
  refine wa_ (wc_block (wc_region (w_ (m_ (h:=w_ (m_ (h:=w_ (m_ (h:=w_ (le (h:=w_ (?_))))))))))))
  refine b_ (hv:=iv_mulI (c:=2 * (pl.length : Int)) (by simp) (by omega) (by omega)) (h:=?_)
  refine w_ (ca (hc:=e_l1Max 1 (2 * (pl.length : Int))) (h:=w_ (cP (hc:=e_next c a (max 1 (2 * (pl.length : Int))) hc (by omega) (by omega)) (h:=w_ (m_ (h:=w_ (cP (hc:=e_next c (a + 1) 4 hc (by omega) (by omega)) (h:=w_ (m_ (h:=w_ (bs (h:=w_ (cPT (hc:=e_pick c (a + 2) [1,1,-1,2,0] hc (by omega) (by simp) (by simp)) (h:=w_ (bd (h:=w_ (bs (h:=w_ (ap (h:=w_ (a_ (h:=wo_nil (e_ (h:=?_))))))))))))))))))))))))
  refine blk_normal (aft_normal (wc_region (w_ (m_ (h:=w_ (?_))))))
  refine b_ (hv:=iv_sub (c:=k) (by simp) (by omega)) (h:=?_)
  refine w_ (a_ (h:=wo_nil (e_ (h:=?_))))
  )
 all_goals first
 | (apply endE (Q:=fun r => ∃ (m' : List Ct) (a' : Nat),r = (.exit 0,⟨[(5,.ref 2 0 m'.length)],[(0,⟨true,false,2,[srcV c a'],0⟩),(2,⟨false,false,3,cts m',0⟩)],3⟩)∧m'.length≤m.length + k∧a'≤a + 3 * k) (ex:=(Ext.exit 0)) 2 (some [5]);(focus (simp [normE];rfl));(focus (exact ⟨m,a,rfl,by omega,by omega⟩)))
 | (refine (ih (k,a + 3,m ++ [⟨nxtV c a (max 1 (2 * (pl.length : Int))),nxtV c (a + 1) 4,at0 [1,1,-1,2,0] (nxtV c (a + 2) 5)⟩]) ⟨by simp only;omega,by simp only;omega,by simp;omega⟩ ?_ _ ?_).imp (fun r hr => ⟨hr.1,?_⟩);(focus (simp;done));(focus (simp [normE];done));(focus (obtain ⟨m',a',e,h1,h2⟩ := hr.2;exact ⟨m',a',e,by simp at h1;omega,by simp at h2;omega⟩)))
theorem e_chgE (c : List Int) (a : Nat) (pl : List Nd) (hc : okS c) (ha : a < 500000000) (hp : pl.length < 1000000) : ∃ r,oc.call 39 [.iop (srcV c a),.lst false 0 (nds false 0 pl)] = some r∧(∃ (m : List Ct) (a' : Nat),r = (.lst true 3 (cts m),[srcV c a'])∧m.length≤6∧a'≤a + 30) := by
 refine fun_sE (Q:=fun r => ∃ (m : List Ct) (a' : Nat),r = (.lst true 3 (cts m),[srcV c a'])∧m.length≤6∧a'≤a + 30) rfl cd39 rfl rfl rfl (by simp;rfl) (by simp;rfl) ?_
 have x1 := nxtV_in (c:=c) (a:=a) (n:=7) (by omega)
 obtain ⟨k,hk⟩ : ∃ k : Nat,nxtV c a 7 = (k : Int) := ⟨(nxtV c a 7).toNat,by omega⟩
 have hn1 := e_next c a 7 hc (by omega) (by omega)
 rw [hk] at hn1 x1
 refine wa_ (wc_region (w_ (aN (h:=wo_nil (e_ (h:=aft_normal (wa_ (wc_region (w_ (bs (h:=w_ (a_ (h:=wo_nil (e_ (h:=aft_normal (wa_ (?_)))))))))))))))))
 refine wa_ (wc_region (w_ (m_ (h:=w_ (cP (hc:=hn1) (h:=w_ (a_ (h:=wo_nil (e_ (h:=aft_normal (wc_block (?_))))))))))))
 refine wc_loopE (l_chgE c pl hc hp (k,a + 1,[]) ⟨by simp only;omega,by simp only;omega,by simp;omega⟩ _ (by simp [normE])) ?_
 rintro _ _ ⟨m,a2,⟨⟩,h1,h2⟩
 refine blk_exit (aft_normal (wa_ (wc_region (w_ (m_ (h:=w_ (a_ (h:=wo_nil (e_ (h:=aft_normal (wc_ret (?_))))))))))))
 all_goals (refine fin_E (Q:=fun r => ∃ (m : List Ct) (a' : Nat),r = (.lst true 3 (cts m),[srcV c a'])∧m.length≤6∧a'≤a + 30) (hr:=(res_tmp rfl res_nil)) (h:=?_);(focus (simp at h1 h2;exact ⟨m,a2,by simp,by omega,by omega⟩)))
theorem addS_len {t : List Ct} : (addS t).1.length≤t.length := by
  unfold addS
  split
  · simp
  · split
    · simp
    · exact List.length_filter_le _ _
theorem e_ctsE (c : List Int) (a : Nat) (pl : List Nd) (hc : okS c) (ha : a < 500000000) (hp : pl.length < 1000000) : ∃ r,oc.call 86 [.iop (srcV c a),.lst false 0 (nds false 0 pl)] = some r∧(∃ (l : List Ct) (a' : Nat),r = (.lst true 3 (cts l),[srcV c a'])∧l.length≤201∧a'≤a + 60) := by
 refine fun_sE (Q:=fun r => ∃ (l : List Ct) (a' : Nat),r = (.lst true 3 (cts l),[srcV c a'])∧l.length≤201∧a'≤a + 60) rfl cd86 rfl rfl rfl (by simp;rfl) (by simp;rfl) ?_
 obtain ⟨_,hd,m,a1,rfl,h1,h2⟩ := e_chgE c a pl hc ha hp
 have hadd := e_l7Add [] m (by simp) (by omega)
 obtain ⟨t,ht⟩ : ∃ t,(addS (m.foldl putC [])).1 = t := ⟨_,rfl⟩
 have htl : t.length≤6 := by have := addS_len (t:=m.foldl putC []);have := fold_len (S:=m) (acc:=[]);rw [ht] at *;simp at *;omega
 rw [ht] at hadd
 have hn1 := fun h : 0 < t.length => e_next c a1 t.length hc (by omega) (by omega)
 have x1 := nxtV_in (c:=c) (a:=a1) (n:=(t.length : Nat))
 obtain ⟨i,hi⟩ : ∃ i : Nat,0 < t.length→nxtV c a1 t.length = (i : Int) := ⟨(nxtV c a1 t.length).toNat,fun h => by have := x1 (by omega);omega⟩
 have hil : 0 < t.length→i < t.length := fun h => by have := x1 (by omega);have := hi h;omega
 refine wa_ (wc_region (w_ (aN (h:=wo_nil (e_ (h:=aft_normal (wa_ (wc_region (w_ (m_ (h:=w_ (m_ (h:=w_ (cP (hc:=hd) (h:=w_ (ca (hc:=hadd) (h:=w_ (m_ (h:=?_)))))))))))))))))))
 refine w_ (ex (h:=w_ (ex (h:=w_ (a_ (h:=w_ (a_ (h:=wo_nil (e_ (h:=aft_normal (wa_ (wa_ (wc_region (w_ (m_ (h:=w_ (le (h:=w_ (bE (h:=?_))))))))))))))))))))
 refine wo_nil (e_ (h:=aft_normal (?_)))
 refine c_ (h1:=?_) (h2:=?_)
 rotate_right 1
 focus
  intro c1
  first
  | exact dn c1
  | (
   have d1 := c1;try simp at d1
   have h0 : 0 < t.length := (by first | omega | (simp at c1;exact List.length_pos_iff.2 c1));have hn1 := hn1 h0;rw [hi h0] at hn1;have hil := hil h0;have hx := cts_get (show t[i]? = some t[i] by simp [hil]);obtain ⟨⟨d1,d2,d3⟩,hdd⟩ : ∃ d,t[i] = d := ⟨_,rfl⟩;rw [hdd] at hx;simp only [Ct.v] at hx
   refine wc_skip (?_)
   )
 rotate_right 1
 focus
  intro c1
  first
  | exact dn c1
  | (
   have d1 := c1;try simp at d1
   refine wa_ (wc_region (w_ (m_ (h:=w_ (a_ (h:=wo_nil (e_ (h:=aft_normal (wc_ret (?_))))))))))
   )
 all_goals first
 | refine aft_ret ?_
 | (
  refine aft_normal ?_
  refine wa_ (wc_region (w_ (m_ (h:=w_ (m_ (h:=w_ (le (h:=w_ (cP (hc:=hn1) (h:=w_ (a_ (h:=wo_nil (e_ (h:=aft_normal (wa_ (wa_ (wc_region (?_))))))))))))))))))
  refine w_ (m_ (h:=w_ (cP (hc:=e_next c (a1 + 1) 24 hc (by omega) (by omega)) (h:=wo_nil (e_ (h:=aft_normal (wc_block (wa_ (wc_region (w_ (bE (h:=w_ (a_ (h:=wo_nil (e_ (h:=aft_normal (?_)))))))))))))))))
  refine c_ (h1:=?_) (h2:=?_)
  rotate_right 1
  focus
   intro c2
   first
   | exact dn c2
   | (
    have d2 := c2;try simp at d2
    refine wa_ (wc_region (w_ (bE (h:=w_ (a_ (h:=wo_nil (e_ (h:=aft_normal (?_)))))))))
    refine c_ (h1:=?_) (h2:=?_)
    rotate_right 1
    focus
     intro c3
     first
     | exact dn c3
     | (
      have d3 := c3;try simp at d3
      refine wa_ (wc_region (w_ (bE (h:=w_ (a_ (h:=wo_nil (e_ (h:=aft_normal (?_)))))))))
      refine c_ (h1:=?_) (h2:=?_)
      rotate_right 1
      focus
       intro c4
       first
       | exact dn c4
       | (
        have d4 := c4;try simp at d4
        refine wa_ (wc_region (w_ (bE (h:=w_ (a_ (h:=wo_nil (e_ (h:=aft_normal (?_)))))))))
        refine c_ (h1:=?_) (h2:=?_)
        rotate_right 1
        focus
         intro c5
         first
         | exact dn c5
         | (
          have d5 := c5;try simp at d5
          refine wa_ (wc_region (w_ (bE (h:=w_ (a_ (h:=wo_nil (e_ (h:=aft_normal (?_)))))))))
          refine c_ (h1:=?_) (h2:=?_)
          rotate_right 1
          focus
           intro c6
           first
           | exact dn c6
           | (
            have d6 := c6;try simp at d6
            refine wc_skip (?_)
            )
          rotate_right 1
          focus
           intro c6
           first
           | exact dn c6
           | (
            have d6 := c6;try simp at d6
            refine wc_region (w_ (mk (h:=w_ (a_ (h:=wo_nil (e_ (h:=?_)))))))
            )
          )
        rotate_right 1
        focus
         intro c5
         first
         | exact dn c5
         | (
          have d5 := c5;try simp at d5
          refine wc_region (w_ (m_ (h:=w_ (m_ (h:=w_ (m_ (h:=w_ (x_ (h:=w_ (l_ (h:=w_ (bs (h:=w_ (ap (h:=w_ (a_ (h:=wo_nil (e_ (h:=?_)))))))))))))))))))
          )
        )
      rotate_right 1
      focus
       intro c4
       first
       | exact dn c4
       | (
        have d4 := c4;try simp at d4
        refine wc_region (w_ (m_ (h:=w_ (m_ (h:=w_ (m_ (h:=w_ (bs (h:=w_ (cPT (hc:=e_pick c (a1 + 2) [0,1000000000000,1000000000001] hc (by omega) (by simp) (by simp)) (h:=w_ (x_ (h:=w_ (f_ (h:=w0 (s_ (h:=wo_nil (e_ (h:=?_)))))))))))))))))))
        )
      )
    rotate_right 1
    focus
     intro c3
     first
     | exact dn c3
     | (
      have d3 := c3;try simp at d3
      refine wc_region (w_ (m_ (h:=w_ (m_ (h:=w_ (m_ (h:=w_ (bs (h:=w_ (cPT (hc:=e_pick c (a1 + 2) [-1,1000,1001] hc (by omega) (by simp) (by simp)) (h:=w_ (x_ (h:=w_ (f_ (h:=w0 (s_ (h:=wo_nil (e_ (h:=?_)))))))))))))))))))
      )
    )
  rotate_right 1
  focus
   intro c2
   first
   | exact dn c2
   | (
    have d2 := c2;try simp at d2
    refine wc_region (w_ (m_ (h:=w_ (m_ (h:=w_ (m_ (h:=w_ (m_ (h:=w_ (le (h:=w_ (?_))))))))))))
    refine b_ (hv:=iv_mulI (c:=2 * (pl.length : Int)) (by simp) (by omega) (by omega)) (h:=?_)
    refine w_ (bs (h:=w_ (cPT (hc:=e_pick c (a1 + 2) [-1,2 * (pl.length : Int),0] hc (by omega) (by simp) (by simp)) (h:=w_ (x_ (h:=w_ (f_ (h:=w0 (s_ (h:=wo_nil (e_ (h:=?_))))))))))))
    )
  all_goals refine blk_normal ?_
  all_goals first
  | (
   refine aft_normal ?_
   refine wa_ (wc_region (w_ (m_ (h:=w_ (a_ (h:=wo_nil (e_ (h:=aft_normal (wc_ret (?_))))))))))
   )
  )
 all_goals (refine fin_E (Q:=fun r => ∃ (l : List Ct) (a' : Nat),r = (.lst true 3 (cts l),[srcV c a'])∧l.length≤201∧a'≤a + 60) (hr:=(res_tmp rfl res_nil)) (h:=?_);(focus (first | exact ⟨List.replicate 201 ⟨0,0,0⟩,_,rfl,by simp,by omega⟩ | exact ⟨_,_,rfl,by first | omega | (simp;omega),by omega⟩)))
end Go.Proofs.Ytbcgenkegnmkhaa.Ev
namespace Go.Proofs.Ytbcgenkegnmkhaa.Ev
open Go
set_option maxRecDepth 100000
set_option linter.unusedSimpArgs false
set_option linter.unusedVariables false
set_option maxHeartbeats 2000000
theorem e_drawAc0 (c : List Int) (hc : okS c) : ∃ r,runE oc cf 11 [.lst false 0 (bys c)] = some r∧(∃ (pl : List Nd) (l m : List Ct),r = (.tup [.lst false 0 (nds false 0 pl),.lst true 3 (cts l),.lst true 3 (cts m)],[])∧planP pl∧l.length≤201∧m.length≤6) := by
 refine run_sE (Q:=fun r => ∃ (pl : List Nd) (l m : List Ct),r = (.tup [.lst false 0 (nds false 0 pl),.lst true 3 (cts l),.lst true 3 (cts m)],[])∧planP pl∧l.length≤201∧m.length≤6) cd11 rfl rfl rfl (by simp;rfl) (by simp;rfl) ?_
 obtain ⟨pl,a1,hb,hp,h1⟩ := e_bentE c 0 hc (by omega)
 have hpl := hp.1
 obtain ⟨_,hcn,l,a2,rfl,hl,h2⟩ := e_ctsE c a1 pl hc (by omega) (by omega)
 obtain ⟨_,hcg,m,a3,rfl,hm,h3⟩ := e_chgE c a2 pl hc (by omega) (by omega)
 refine wa_ (wc_region (w_ (aN (h:=w_ (aN (h:=w_ (aN (h:=wo_nil (e_ (h:=aft_normal (wa_ (wc_region (w_ (m_ (h:=?_)))))))))))))))
 refine iE (h:=?_)
 apply Exists.intro
 apply Exists.intro
 apply Exists.intro
 apply And.intro
 focus
  apply inl_s (by rw [cf_pl];rfl) cd38 rfl rfl (by simp;rfl)
  refine wa_ (wc_region (w_ (aN (h:=w_ (aN (h:=w_ (aP (h:=wo_nil (e_ (h:=aft_normal (wa_ (wc_region (w_ (m_ (h:=?_)))))))))))))))
  refine iE (h:=?_)
  apply Exists.intro
  apply Exists.intro
  apply Exists.intro
  apply And.intro
  focus
   apply inl_s (by rw [cf_pl];rfl) cd31 rfl rfl (by simp;rfl)
   refine wa_ (wc_region (w_ (aP (h:=wo_nil (e_ (h:=aft_normal (wa_ (wc_region (w_ (m_ (h:=w_ (bd (h:=w_ (bx (h:=w_ (a_ (h:=wo_nil (e_ (h:=?_)))))))))))))))))))
   refine aft_normal (wc_ret (?_))
   exact ⟨by simp,_,rfl,rfl,rfl⟩
  refine ⟨_,(by (simp;rfl)),?_⟩
  refine w_ (a_ (h:=wo_nil (e_ (h:=aft_normal (wa_ (wc_region (w_ (m_ (h:=w_ (cP (hc:=hb) (h:=w_ (a_ (h:=wo_nil (e_ (h:=aft_normal (wa_ (wc_region (?_))))))))))))))))))
  refine w_ (m_ (h:=w_ (m_ (h:=w_ (m_ (h:=w_ (cP (hc:=hcn) (h:=w_ (m_ (h:=w_ (a_ (h:=w_ (a_ (h:=w_ (a_ (h:=wo_nil (e_ (h:=aft_normal (wc_ret (?_))))))))))))))))))))
  exact ⟨by simp,_,rfl,rfl,rfl⟩
 refine ⟨_,(by (simp;rfl)),?_⟩
 refine w_ (m_ (h:=w_ (ex (h:=w_ (ex (h:=w_ (ex (h:=w_ (a_ (h:=w_ (a_ (h:=w_ (a_ (h:=wo_nil (e_ (h:=aft_normal (wa_ (wc_region (w_ (m_ (h:=?_)))))))))))))))))))))
 refine w_ (m_ (h:=w_ (cP (hc:=hcg) (h:=w_ (a_ (h:=wo_nil (e_ (h:=aft_normal (wa_ (wa_ (wc_region (w_ (m_ (h:=w_ (le (h:=w_ (b_ (h:=w_ (m_ (h:=?_))))))))))))))))))))
 refine gw_ (h1:=?_) (h2:=?_)
 rotate_right 1
 focus
  intro c1
  first
  | exact dn c1
  | (
   have d1 := c1;try simp at d1
   refine go_ (h:=go_ (h:=?_))
   )
 rotate_right 1
 focus
  intro c1
  first
  | exact dn c1
  | (
   have d1 := c1;try simp at d1
   refine g_ (h:=w_ (m_ (h:=g_ (h:=w_ (cP (hc:=e_chance c a3 12 hc (by omega) (by omega)) (h:=?_))))))
   )
 all_goals
  refine w_ (pk (h:=wo_nil (e_ (h:=?_))))
 all_goals first
 | (
  refine aft_normal ?_
  refine c_ (h1:=?_) (h2:=?_)
  rotate_right 1
  focus
   intro c2
   first
   | exact dn c2
   | (
    have d2 := c2;try simp at d2
    refine wc_skip (?_)
    )
  rotate_right 1
  focus
   intro c2
   first
   | exact dn c2
   | (
    have d2 := c2;try simp at d2
    have hm0 : 0 < m.length := (by first | omega | (simp at c1;first | omega | exact List.length_pos_iff.2 c1));obtain ⟨⟨d1,d2,d3⟩,m2,rfl⟩ : ∃ d m2,m = d :: m2 := (by cases m with | nil => (simp at hm0) | cons d m2 => exact ⟨d,m2,rfl⟩)
    refine wa_ (wc_region (w_ (m_ (h:=w_ (m_ (h:=w_ (bs (h:=w_ (cPT (hc:=e_pick c (a3 + 1) [1000000000000,1000000000001] hc (by omega) (by simp) (by simp)) (h:=w_ (x_ (h:=w_ (f_ (h:=w0 (s_ (h:=wo_nil (e_ (h:=aft_normal (wc_region (?_))))))))))))))))))))
    refine w_ (m_ (h:=w_ (m_ (h:=w_ (bs (h:=w_ (cPT (hc:=e_pick c (a3 + 1 + 1) [0,1001] hc (by omega) (by simp) (by simp)) (h:=w_ (x_ (h:=w_ (f_ (h:=w0 (s_ (h:=wo_nil (e_ (h:=?_))))))))))))))))
    )
  )
 all_goals first
 | (
  refine aft_normal ?_
  refine wa_ (wc_region (w_ (m_ (h:=w_ (m_ (h:=w_ (m_ (h:=w_ (a_ (h:=w_ (a_ (h:=w_ (a_ (h:=wo_nil (e_ (h:=aft_normal (wc_ret (?_))))))))))))))))))
  )
 all_goals (refine fin_E (Q:=fun r => ∃ (pl : List Nd) (l m : List Ct),r = (.tup [.lst false 0 (nds false 0 pl),.lst true 3 (cts l),.lst true 3 (cts m)],[])∧planP pl∧l.length≤201∧m.length≤6) (hr:=(res_tmp rfl (res_tmp rfl (res_tmp rfl res_nil)))) (h:=?_);(focus (first | exact ⟨pl,l,m,by simp,hp,hl,hm⟩ | exact ⟨pl,l,⟨_,_,_⟩ :: m2,by simp [Ct.v];exact ⟨rfl,rfl,rfl⟩,hp,hl,by simpa using hm⟩)))
theorem e_drawAc (c : List Int) (hc : okS c) : ∃ (pl : List Nd) (l m : List Ct),oc.call 11 [.lst false 0 (bys c)] = some (.tup [.lst false 0 (nds false 0 pl),.lst false 0 (cts l),.lst false 0 (cts m)],[])∧planP pl∧l.length≤201∧m.length≤6 := by
  obtain ⟨_,h,pl,l,m,rfl,hp,hl,hm⟩ := e_drawAc0 c hc
  refine ⟨pl,l,m,?_,hp,hl,hm⟩
  have := half_s (by rfl) (by rfl) h
  rw [this]
  simp [V.half,V.shareL,V.share]
def okBy (c : List Int) : Prop := c.length≤140737488351232∧∀ x∈c,0≤x∧x < 256
theorem dByte {t : TypeId} {n : Nat} {v : V} (hu : Try.prog.underlying t = some (.int .u8)) (h : hasT Try.prog (n + 1) t v) : ∃ m,v = .int .u8 m∧(0≤m∧m < 256) := by
  obtain ⟨m,e,h1,h2⟩ := dec_int hu h
  exact ⟨m,e,by simp [IntKind.min,IntKind.max,IntKind.signed,IntKind.bits] at h1 h2;omega⟩
theorem dBytes {n : Nat} {v : V} (h : hasT Try.prog (n + 2) 22 v) : ∃ l,v = .lst false 0 (bys l)∧okBy l := by
  obtain ⟨xs,e,h1,h2⟩ := dec_slice Try.underlying22 h
  obtain ⟨l,e2,h3⟩ := dec_list (f:=fun m => V.int .u8 m) (p:=fun m => 0≤m∧m < 256) (fun x hx => by have q := h2 x hx;first | exact dByte Try.underlying5 q | exact dByte Try.underlying3 q | exact dByte Try.underlying4 q | exact dByte Try.underlying6 q | exact dByte Try.underlying7 q | exact dByte Try.underlying8 q)
  exact ⟨l,by rw [e,e2];rfl,by rw [e2] at h1;simpa using h1,h3⟩
end Go.Proofs.Ytbcgenkegnmkhaa.Ev
namespace Go.Proofs.Ytbcgenkegnmkhaa.Ev
open Go
set_option maxRecDepth 100000
set_option linter.unusedSimpArgs false
set_option linter.unusedVariables false
set_option maxHeartbeats 2000000
theorem pastAt_less {pl : List Nd} {l : List Ct} {to ep : Int} (h : pastAtN pl l to ep = true) : pastAtN pl l to (ep - 1) = true := by
  unfold pastAtN at *
  simp only [Bool.and_eq_true,decide_eq_true_eq] at *
  exact ⟨h.1,h.2.1,pastN_less h.2.2⟩
theorem pastAt_back {pl : List Nd} {l : List Ct} {c : Ct} {to ep : Int} (hc : 0 < c.n∧c.n≤4) (h : (adN pl l [c]).1 = 0) (hp : pastAtN pl (adN pl l [c]).2 to ep = true) : pastAtN pl l to ep = true := by
  have h1 := (adN_right h).1
  unfold pastAtN at *
  simp only [Bool.and_eq_true,decide_eq_true_eq] at *
  exact ⟨h1,hp.2.1,past_back hc h hp.2.2⟩
theorem adN_one {pl : List Nd} {l : List Ct} {c : Ct} (h : ctsN pl l = 0) (hc : rightC pl c = true) : (adN pl l [c]).1 = 0∨(adN pl l [c]).1 = 8∨(adN pl l [c]).1 = 2 := by
  unfold adN
  rw [if_pos h,if_neg (by simp),if_neg (by rw [badR_f hc];simp [badR])]
  simp only
  unfold addS
  split
  · exact .inr (.inl rfl)
  · split
    · exact .inr (.inr rfl)
    · exact .inl rfl
theorem adN_len {pl : List Nd} {l m : List Ct} : (adN pl l m).2.length < 2000000 := by
  unfold adN
  split
  · split
    · simp
    · split
      · simp
      · unfold addS
        split
        · simp
        · split
          · simp
          · rename_i h;simp only;omega
  · simp
theorem look_pos {pl : List Nd} (h : (lookN pl).2 = 0) : 1≤pl.length := by
  by_cases h0 : 1≤pl.length
  · exact h0
  · have : pl = [] := List.eq_nil_of_length_eq_zero (by omega)
    subst this
    cases h
theorem fr_cases {pl : List Nd} {l : List Ct} {to ep : Int} (h : ctsN pl l = 0) (hp : isPl pl to = true) : (frAtN pl l to = (4,0)∧pastAtN pl l to ep = true)∨∃ e,frAtN pl l to = (0,e)∧((decide (ep < e) = true∧pastAtN pl l to ep = true)∨(decide (ep < e) = false∧pastAtN pl l to ep = false)) := by
  unfold pastAtN frAtN pastN
  rw [if_pos h,if_pos hp,hp]
  simp only [h,decide_true,Bool.true_and]
  cases frN pl l to with
  | none => exact .inl ⟨rfl,rfl⟩
  | some e =>
    refine .inr ⟨e,rfl,?_⟩
    simp only [Option.elim]
    cases decide (ep < e) <;> simp
theorem e_fnFr (c : List Int) (hb : ∀ x∈c,0≤x∧x < 256) (hl4 : c.length < 400000000000000) : oc.call 4 [.lst false 0 (bys c)] = some (.bool true,[]) := by
 refine fun_s rfl cd4 rfl rfl rfl (by simp;rfl) (by simp;rfl) ?_
 refine wa_ (wc_region (w_ (a_ (h:=wo_nil (e_ (h:=aft_normal (wa_ (wa_ (wc_region (w_ (m_ (h:=w_ (ca (hc:=e_lwBig c hl4) (h:=wo_nil (e_ (h:=aft_normal (?_)))))))))))))))))
 refine c_ (h1:=?_) (h2:=?_)
 rotate_right 1
 focus
  intro c1
  first
  | exact dn c1
  | (
   have d1 := c1;try simp at d1
   have hok : okS c := ⟨by omega,hb⟩;obtain ⟨pl,l,m,hd,hp,hl,hm⟩ := e_drawAc c hok;have hpl := hp.1;obtain ⟨_,hA1,v1,rfl,p1,q1⟩ := e_lwAt c 1 (2 * (pl.length : Int)) hb hl4 (by omega) (by omega);obtain ⟨_,hA2,v2,rfl,p2,q2⟩ := e_lwAt c 2 5 hb hl4 (by omega) (by omega);obtain ⟨_,hA3,v3,rfl,p3,q3⟩ := e_lwAt c 3 (2 * (pl.length : Int)) hb hl4 (by omega) (by omega);obtain ⟨_,hA4,v4,rfl,p4,q4⟩ := e_lwAt c 4 5 hb hl4 (by omega) (by omega);obtain ⟨_,hA5,v5,rfl,p5,q5⟩ := e_lwAt c 5 3 hb hl4 (by omega) (by omega);have hcl := adN_len (pl:=pl) (l:=l) (m:=m);have hcl2 := adN_len (pl:=pl) (l:=l) (m:=[⟨v3,v4,1 + v5⟩]);have hadd2 := e_adI pl l [⟨v3,v4,1 + v5⟩] (by omega) hp.ok;obtain ⟨⟨xc,xl⟩,hXe⟩ : ∃ X,adN pl l [⟨v3,v4,1 + v5⟩] = X := ⟨_,rfl⟩;rw [hXe] at hadd2 hcl2;simp only at hadd2 hcl2
   refine wc_skip (?_)
   )
 rotate_right 1
 focus
  intro c1
  first
  | exact dn c1
  | (
   have d1 := c1;try simp at d1
   refine wa_ (wc_region (w_ (a_ (h:=wo_nil (e_ (h:=aft_normal (wc_ret (?_))))))))
   )
 all_goals first
 | refine aft_ret ?_
 | (
  refine aft_normal ?_
  refine wa_ (wc_region (w_ (m_ (h:=w_ (ca (hc:=hd) (h:=w_ (m_ (h:=w_ (ex (h:=w_ (ex (h:=w_ (ex (h:=w_ (a_ (h:=w_ (a_ (h:=w_ (a_ (h:=wo_nil (e_ (h:=?_))))))))))))))))))))))
  refine aft_normal (wa_ (wc_region (w_ (m_ (h:=w_ (m_ (h:=w_ (m_ (h:=w_ (ca (hc:=e_adI pl l m (by omega) hp.ok) (h:=w_ (al (h:=w0 (s_ (h:=wo_nil (e_ (h:=aft_normal (wa_ (?_)))))))))))))))))))
  refine wa_ (wc_region (w_ (f_ (h:=w_ (l_ (h:=w_ (bE (h:=wo_nil (e_ (h:=aft_normal (?_)))))))))))
  refine c_ (h1:=?_) (h2:=?_)
  rotate_right 1
  focus
   intro c2
   first
   | exact dn c2
   | (
    have d2 := c2;try simp at d2
    refine wc_skip (?_)
    )
  rotate_right 1
  focus
   intro c2
   first
   | exact dn c2
   | (
    have d2 := c2;try simp at d2
    refine wa_ (wc_draw (y_ (m_ (h:=ax_ (h:=y_ (m_ (h:=ax_ (h:=y_ (m_ (h:=ax_ (h:=y_ (ca (hc:=e_adS pl l m (by omega) hp.ok) (h:=ax_ (h:=y_ (fi (h:=ax_ (h:=y_ (f_ (h:=ax_ (h:=y_ (l_ (h:=ax_ (h:=y_ (bE (h:=ax_ (h:=y_ (a_ (h:=ax_ (h:=wo_nil (ed (h:=?_)))))))))))))))))))))))))))))))
    refine aft_normal (wc_ret (?_))
    )
  all_goals first
  | refine aft_ret ?_
  | (
   refine aft_normal ?_
   refine wa_ (wa_ (wc_draw (y_ (m_ (h:=ax_ (h:=y_ (f_ (h:=ax_ (h:=y_ (l_ (h:=ax_ (h:=y_ (ca (hc:=e_ctsFI pl (adN pl l m).2 (by omega) hp.ok) (h:=ax_ (h:=y_ (bE (h:=ax_ (h:=y_ (m_ (h:=ax_ (h:=?_)))))))))))))))))))))
   refine gw_ (h1:=?_) (h2:=?_)
   rotate_right 1
   focus
    intro c3
    first
    | exact dn c3
    | (
     have d3 := c3;try simp at d3
     refine gd_ (h:=gd_ (h:=gd_ (h:=gd_ (h:=gd_ (h:=gd_ (h:=gd_ (h:=gd_ (h:=gd_ (h:=gd_ (h:=?_))))))))))
     )
   rotate_right 1
   focus
    intro c3
    first
    | exact dn c3
    | (
     have d3 := c3;try simp at d3
     refine g_ (h:=y_ (f_ (h:=ax_ (h:=g_ (h:=y_ (l_ (h:=ax_ (h:=g_ (h:=y_ (le (h:=ax_ (h:=g_ (h:=y_ (m_ (h:=ax_ (h:=g_ (h:=y_ (m_ (h:=ax_ (h:=g_ (h:=y_ (m_ (h:=ax_ (h:=g_ (h:=y_ (ca (hc:=e_adS pl l m (by omega) hp.ok) (h:=ax_ (h:=g_ (h:=y_ (fi (h:=ax_ (h:=g_ (h:=y_ (le (h:=ax_ (h:=g_ (h:=y_ (bE (h:=ax_ (h:=?_))))))))))))))))))))))))))))))))))))))))
     )
   all_goals
    refine y_ (pk (h:=ax_ (h:=wo_nil (ed (h:=?_)))))
   all_goals first
   | (
    refine aft_normal ?_
    refine c_ (h1:=?_) (h2:=?_)
    rotate_right 1
    focus
     intro c4
     first
     | exact dn c4
     | (
      have d4 := c4;try simp at d4
      refine wc_skip (?_)
      )
    rotate_right 1
    focus
     intro c4
     first
     | exact dn c4
     | (
      have d4 := c4;try simp at d4
      refine wa_ (wc_region (w_ (a_ (h:=wo_nil (e_ (h:=aft_normal (wc_ret (?_))))))))
      )
    )
   all_goals first
   | refine aft_ret ?_
   | (
    refine aft_normal ?_
    refine wa_ (wc_region (w_ (m_ (h:=w_ (m_ (h:=w_ (le (h:=w_ (?_)))))))))
    refine b_ (hv:=iv_mulI (c:=2 * (pl.length : Int)) (by simp) (by omega) (by omega)) (h:=?_)
    refine w_ (ca (hc:=hA1) (h:=w_ (a_ (h:=wo_nil (e_ (h:=aft_normal (wa_ (wa_ (wc_region (w_ (m_ (h:=w_ (m_ (h:=w_ (m_ (h:=w_ (ca (hc:=e_leadsToI pl v1 v1 (by omega) hp.ok) (h:=w_ (u_ (h:=?_))))))))))))))))))))
    refine wo_nil (e_ (h:=aft_normal (?_)))
    refine c_ (h1:=?_) (h2:=?_)
    rotate_right 1
    focus
     intro c5
     first
     | exact dn c5
     | (
      have d5 := c5;try simp at d5
      obtain ⟨k0,kb,_,_,k5⟩ := adN_right d2;have hr := (ctsN_zero k0).1;have hpl1 := look_pos hr;have hv1 : isPl pl v1 = true := isPl_iff.2 (by omega);have hFr := e_frAtI pl l v1 (by omega) hp.ok (by omega);have hPa := e_pastAtI pl l v1 v2 (by omega) hp.ok (by omega);have hPb := e_pastAtI pl l v1 (v2 - 1) (by omega) hp.ok (by omega);have hone := adN_one (c:=⟨v3,v4,1 + v5⟩) k0 (by simp only [rightC,isPl_iff.2 (show 0≤v3∧v3 < 2 * (pl.length : Int) by omega),Bool.true_and];simp [inI];omega);have hbk : xc = 0→pastAtN pl xl v1 v2 = true→pastAtN pl l v1 v2 = true := fun h0 h1 => pastAt_back (c:=⟨v3,v4,1 + v5⟩) (by simp only;omega) (by rw [hXe];exact h0) (by rw [hXe];exact h1);rw [hXe] at hone;simp only at hone;rcases fr_cases (ep:=v2) k0 hv1 with ⟨u1,u2⟩ | ⟨e,u1,⟨u3,u2⟩ | ⟨u3,u2⟩⟩ <;> rw [u1] at hFr <;> rw [u2] at hPa <;> simp only at hFr <;> (try rw [pastAt_less u2] at hPb)
      all_goals
       refine wc_skip (?_)
      )
    rotate_right 1
    focus
     intro c5
     first
     | exact dn c5
     | (
      have d5 := c5;try simp at d5
      refine wa_ (wc_region (w_ (a_ (h:=wo_nil (e_ (h:=aft_normal (wc_ret (?_))))))))
      )
    all_goals first
    | refine aft_ret ?_
    | (
     refine aft_normal ?_
     refine wa_ (wc_region (w_ (m_ (h:=w_ (ca (hc:=hA2) (h:=w_ (a_ (h:=wo_nil (e_ (h:=aft_normal (wa_ (wc_region (w_ (m_ (h:=w_ (m_ (h:=w_ (m_ (h:=?_)))))))))))))))))))
     refine w_ (ca (hc:=hFr) (h:=w_ (al (h:=w0 (s_ (h:=wo_nil (e_ (h:=aft_normal (wa_ (wc_region (w_ (m_ (h:=w_ (m_ (h:=w_ (m_ (h:=w_ (m_ (h:=w_ (ca (hc:=hPa) (h:=?_)))))))))))))))))))))
     refine w_ (a_ (h:=wo_nil (e_ (h:=aft_normal (wa_ (wa_ (wc_region (w_ (m_ (h:=w_ (f_ (h:=w_ (l_ (h:=w_ (bE (h:=w_ (m_ (h:=?_))))))))))))))))))
     refine gw_ (h1:=?_) (h2:=?_)
     rotate_right 1
     focus
      intro c6
      first
      | exact dn c6
      | (
       have d6 := c6;try simp at d6
       (try (exfalso;simp [u3] at c6;done))
       all_goals
        refine go_ (h:=go_ (h:=go_ (h:=go_ (h:=?_))))
       )
     rotate_right 1
     focus
      intro c6
      first
      | exact dn c6
      | (
       have d6 := c6;try simp at d6
       (try (exfalso;simp [u3] at c6;done))
       all_goals
        refine g_ (h:=w_ (f_ (h:=g_ (h:=w_ (l_ (h:=g_ (h:=w_ (bE (h:=g_ (h:=w_ (m_ (h:=?_))))))))))))
       )
     all_goals
      first
      | (
       skip
       refine goN (h:=goN (h:=goN (h:=goN (h:=?_))))
       )
      | (
       refine gw_ (h1:=?_) (h2:=?_)
       rotate_right 1
       focus
        intro c7
        first
        | exact dn c7
        | (
         have d7 := c7;try simp at d7
         (try (exfalso;simp [u3] at c7;done))
         all_goals
          refine go_ (h:=go_ (h:=go_ (h:=go_ (h:=?_))))
         )
       rotate_right 1
       focus
        intro c7
        first
        | exact dn c7
        | (
         have d7 := c7;try simp at d7
         (try (exfalso;simp [u3] at c7;done))
         all_goals
          refine g_ (h:=w_ (f_ (h:=g_ (h:=w_ (l_ (h:=g_ (h:=w_ (m_ (h:=g_ (h:=w_ (b_ (h:=?_))))))))))))
         )
       )
      all_goals
       first
       | (
        skip
        refine g_ (h:=w_ (pk (h:=?_)))
        )
       | (
        skip
        refine go_ (h:=?_)
        )
       all_goals
        refine w_ (pk (h:=w_ (bE (h:=w_ (m_ (h:=?_))))))
        refine gw_ (h1:=?_) (h2:=?_)
        rotate_right 1
        focus
         intro c8
         first
         | exact dn c8
         | (
          have d8 := c8;try simp at d8
          (try (exfalso;simp [u3] at c8;done))
          all_goals
           refine go_ (h:=go_ (h:=?_))
          )
        rotate_right 1
        focus
         intro c8
         first
         | exact dn c8
         | (
          have d8 := c8;try simp at d8
          (try (exfalso;simp [u3] at c8;done))
          all_goals
           refine g_ (h:=w_ (m_ (h:=g_ (h:=w_ (m_ (h:=?_))))))
          )
        all_goals
         first
         | (
          skip
          refine goN (h:=goN (h:=?_))
          )
         | (
          refine gw_ (h1:=?_) (h2:=?_)
          rotate_right 1
          focus
           intro c9
           first
           | exact dn c9
           | (
            have d9 := c9;try simp at d9
            (try (exfalso;simp [u3] at c9;done))
            all_goals
             refine go_ (h:=go_ (h:=?_))
            )
          rotate_right 1
          focus
           intro c9
           first
           | exact dn c9
           | (
            have d9 := c9;try simp at d9
            (try (exfalso;simp [u3] at c9;done))
            all_goals
             refine g_ (h:=w_ (m_ (h:=g_ (h:=w_ (b_ (h:=?_))))))
            )
          )
         all_goals
          first
          | (
           skip
           refine g_ (h:=w_ (pk (h:=g_ (h:=w_ (m_ (h:=?_))))))
           )
          | (
           skip
           refine go_ (h:=go_ (h:=?_))
           )
          all_goals
           first
           | (
            skip
            refine goN (h:=goN (h:=goN (h:=goN (h:=goN (h:=goN (h:=goN (h:=?_)))))))
            )
           | (
            refine gw_ (h1:=?_) (h2:=?_)
            rotate_right 1
            focus
             intro c10
             first
             | exact dn c10
             | (
              have d10 := c10;try simp at d10
              (try (exfalso;simp [u3] at c10;done))
              all_goals
               refine go_ (h:=go_ (h:=go_ (h:=go_ (h:=go_ (h:=go_ (h:=go_ (h:=?_)))))))
              )
            rotate_right 1
            focus
             intro c10
             first
             | exact dn c10
             | (
              have d10 := c10;try simp at d10
              (try (exfalso;simp [u3] at c10;done))
              all_goals
               refine g_ (h:=w_ (m_ (h:=g_ (h:=w_ (m_ (h:=g_ (h:=w_ (m_ (h:=g_ (h:=w_ (m_ (h:=g_ (h:=w_ (?_))))))))))))))
               refine b_ (hv:=iv_subI rfl (by omega) (by omega)) (h:=?_)
               refine g_ (h:=w_ (ca (hc:=hPb) (h:=g_ (h:=w_ (u_ (h:=?_))))))
              )
            )
           all_goals
            first
            | (
             skip
             refine g_ (h:=w_ (pk (h:=?_)))
             )
            | (
             skip
             refine go_ (h:=?_)
             )
            all_goals
             refine w_ (pk (h:=wo_nil (e_ (h:=?_))))
     all_goals first
     | (
      refine aft_normal ?_
      refine c_ (h1:=?_) (h2:=?_)
      rotate_right 1
      focus
       intro c11
       first
       | exact dn c11
       | (
        have d11 := c11;try simp at d11
        (try (exfalso;simp [u3] at c11;done))
        all_goals
         refine wc_skip (?_)
        )
      rotate_right 1
      focus
       intro c11
       first
       | exact dn c11
       | (
        have d11 := c11;try simp at d11
        (try (exfalso;simp [u3] at c11;done))
        all_goals
         refine wa_ (wc_region (w_ (a_ (h:=wo_nil (e_ (h:=aft_normal (wc_ret (?_))))))))
        )
      )
     all_goals first
     | refine aft_ret ?_
     | (
      refine aft_normal ?_
      refine wa_ (wc_region (w_ (m_ (h:=w_ (m_ (h:=w_ (le (h:=w_ (?_)))))))))
      refine b_ (hv:=iv_mulI (c:=2 * (pl.length : Int)) (by simp) (by omega) (by omega)) (h:=?_)
      refine w_ (ca (hc:=hA3) (h:=w_ (m_ (h:=w_ (ca (hc:=hA4) (h:=w_ (m_ (h:=w_ (ca (hc:=hA5) (h:=w_ (?_)))))))))))
      refine b_ (hv:=iv_addI (c:=1 + v5) rfl (by omega) (by omega)) (h:=?_)
      refine w_ (bd (h:=w_ (bs (h:=w_ (a_ (h:=wo_nil (e_ (h:=aft_normal (wa_ (wc_region (w_ (m_ (h:=w_ (m_ (h:=w_ (m_ (h:=w_ (ca (hc:=hadd2) (h:=w_ (al (h:=?_)))))))))))))))))))))
      refine w0 (?_)
      refine s_ (h1:=k_storeS (tys_ok.zero _ _ rfl) rfl rfl (by simp;rfl) (by rfl) ⟨rfl,rfl⟩) (h:=?_)
      refine wo_nil (e_ (h:=aft_normal (wa_ (wa_ (wc_region (w_ (f_ (h:=w_ (l_ (h:=w_ (bE (h:=wo_nil (e_ (h:=aft_normal (?_)))))))))))))))
      refine c_ (h1:=?_) (h2:=?_)
      rotate_right 1
      focus
       intro c12
       first
       | exact dn c12
       | (
        have d12 := c12;try simp at d12
        (try (exfalso;simp [u3] at c12;done))
        all_goals
         refine wc_skip (?_)
        )
      rotate_right 1
      focus
       intro c12
       first
       | exact dn c12
       | (
        have d12 := c12;try simp at d12
        (try (exfalso;simp [u3] at c12;done))
        all_goals
         refine wa_ (wc_region (w_ (f_ (h:=w_ (l_ (h:=w_ (bE (h:=w_ (m_ (h:=?_))))))))))
         refine gw_ (h1:=?_) (h2:=?_)
         rotate_right 1
         focus
          intro c13
          first
          | exact dn c13
          | (
           have d13 := c13;try simp at d13
           (try (exfalso;simp [u3] at c13;done))
           all_goals
            refine go_ (h:=go_ (h:=go_ (h:=?_)))
           )
         rotate_right 1
         focus
          intro c13
          first
          | exact dn c13
          | (
           have d13 := c13;try simp at d13
           (try (exfalso;simp [u3] at c13;done))
           all_goals
            refine g_ (h:=w_ (f_ (h:=g_ (h:=w_ (l_ (h:=g_ (h:=w_ (bE (h:=?_)))))))))
           )
         all_goals
          refine w_ (pk (h:=w_ (a_ (h:=wo_nil (e_ (h:=?_))))))
         all_goals first
         | (
          refine aft_normal ?_
          refine wc_ret (?_)
          )
        )
      all_goals first
      | refine aft_ret ?_
      | (
       refine aft_normal ?_
       refine wa_ (wc_region (w_ (m_ (h:=w_ (m_ (h:=?_))))))
       refine gw_ (h1:=?_) (h2:=?_)
       rotate_right 1
       focus
        intro c14
        first
        | exact dn c14
        | (
         have d14 := c14;try simp at d14
         refine go_ (h:=go_ (h:=go_ (h:=go_ (h:=go_ (h:=go_ (h:=go_ (h:=?_)))))))
         )
       rotate_right 1
       focus
        intro c14
        first
        | exact dn c14
        | (
         have d14 := c14;try simp at d14
         refine g_ (h:=w_ (m_ (h:=g_ (h:=w_ (f_ (h:=g_ (h:=w_ (l_ (h:=g_ (h:=w_ (m_ (h:=g_ (h:=w_ (m_ (h:=g_ (h:=w_ (ca (hc:=e_pastAtI pl xl v1 v2 (by omega) hp.ok hcl2) (h:=g_ (h:=w_ (u_ (h:=?_)))))))))))))))))))))
         )
       all_goals
        refine w_ (pk (h:=w_ (a_ (h:=wo_nil (e_ (h:=?_))))))
       all_goals first
       | (
        refine aft_normal ?_
        refine wc_ret (?_)
        )
       )
      )
     )
    )
   )
  )
 all_goals (refine fin_ (hr:=(res_tmp rfl res_nil)) (h:=?_);(focus (first | rfl | (exfalso;exact d3 (adN_right d2).2.2.2.2) | (exfalso;obtain ⟨k0,_,_,_,_⟩ := adN_right d2;have hr := (ctsN_zero k0).1;have hpl1 := look_pos hr;rw [leadsN_self hr (by omega) (by omega)] at d5;cases d5;done) | (simp [oneV];omega) | (cases hq : pastAtN pl xl v1 v2 with | false => rfl | true => (exfalso;have h9 := hbk (by first | assumption | omega | (simp at *;omega)) hq;rw [u2] at h9;cases h9)))))
theorem law_fnFrontiers (c : List Int) (h : okBy c) : oc.call 4 [.lst false 0 (bys c)] = some (.bool true,[]) := e_fnFr c h.2 (by have := h.1;omega)
end Go.Proofs.Ytbcgenkegnmkhaa.Ev
