/- Part 4 of the proof that the law named in the last part returns true at every argument: an evaluator of the program, shown sound, and its runs. No further conditions. -/
import Derived.Test.YtgkbmiaimjpbfaaML2803
namespace Go.Proofs.Ytgkbmiaimjpbfaa.Ev
open Go
set_option maxRecDepth 100000
theorem fun_s {f : FuncId} {fn : Func} {body : Code} {args : List V} {x : V × List V} {e : List (Nat × V)} {o : List (Nat × Ob)} {n : Nat} (hn : nilT f = false) (hf : cf.code f = some fn) (hb : fn.body = some body) (hl : args.length = n) (hl2 : n = fn.params.size + fn.nfree) (he : (bindArgs 0 args).1 = e) (ho : (bindArgs 0 args).2 = o)
    (h : wpC oc cf f body ⟨e,o,n⟩ (fun e s => (e = .normal ∨ e = .ret) ∧ ∃ vs,resL cf s fn.results.toList = some vs ∧ ∃ r,V.fzL vs ⟨[],s.obs,s.nxt⟩ = r ∧ ∃ q,r = some q ∧ ∃ os,outsV 0 args q.2 = some os ∧ (oneV q.1,os) = x)) (hh : hsT f = false := by rfl) : oc.call f args = some x := by
  unfold cf oc at *
  subst hl he ho
  refine wp_fun hn hh hf hb hl2 ?_
  obtain ⟨r,h1,h2,vs,h3,q,h4,u,h5,os,h6,h7⟩ := h
  refine ⟨r,h1,h2,vs,h3,(u.1,u.2.re r.2.env),?_,os,?_,h7⟩
  · have := fzL_re r.2.env vs ⟨[],r.2.obs,r.2.nxt⟩
    rw [h4,h5] at this
    exact this
  · rw [outs_re];exact h6
theorem run_s {f : FuncId} {fn : Func} {body : Code} {args : List V} {x : V × List V} {e : List (Nat × V)} {o : List (Nat × Ob)} {n : Nat} (hf : cf.code f = some fn) (hb : fn.body = some body) (hl : args.length = n) (hl2 : n = fn.params.size + fn.nfree) (he : (bindArgs 0 args).1 = e) (ho : (bindArgs 0 args).2 = o)
    (h : wpC oc cf f body ⟨e,o,n⟩ (fun e s => (e = .normal ∨ e = .ret) ∧ ∃ vs,resL cf s fn.results.toList = some vs ∧ ∃ r,V.fzL vs ⟨[],s.obs,s.nxt⟩ = r ∧ ∃ q,r = some q ∧ ∃ os,outsV 0 args q.2 = some os ∧ (oneV q.1,os) = x)) : runE oc cf f args = some x := by
  subst hl he ho
  obtain ⟨r,h1,h2,vs,h3,q,h4,u,h5,os,h6,h7⟩ := h
  have h4' : V.fzL vs r.2 = some (u.1,u.2.re r.2.env) := by
    have := fzL_re r.2.env vs ⟨[],r.2.obs,r.2.nxt⟩
    rw [h4,h5] at this
    exact this
  have h6' : outsV 0 args (u.2.re r.2.env) = some os := by rw [outs_re];exact h6
  unfold runE
  simp only [hf,hb,if_pos hl2,h1,if_pos h2,h3,h4',h6',mp_some,h7]
theorem half_s {f : FuncId} {args : List V} {x : V × List V} (hn : nilT f = false) (hh : hsT f = true) (h : runE oc cf f args = some x) : oc.call f args = some (x.1.half,x.2) := by
  unfold cf oc at *
  exact or_callH h hn hh
theorem nil_s {f : FuncId} {sz : Nat} {xs : List V} {x : V × List V} (hn : nilT f = true) (h : xs ≠ [] → runE oc cf f [.lst false sz xs] = some x) (h1 : xs = [] → runE oc cf f [.emp true] = some x) (h2 : xs = [] → runE oc cf f [.emp false] = some x) : oc.call f [.lst false sz xs] = some x := by
  unfold cf oc at *
  exact or_call_nil hn h h1 h2
theorem end_leaf {ex : Ext} (np : Nat) (out : Option (List Nat)) {s s1 : St} {r : Ext × St} (h1 : normE np out s = s1) (h2 : (ex,s1) = r) : (ex,normE np out s) = r := by subst h1;exact h2
theorem res_nil {cfg : Cfg} {s : St} : resL cfg s [] = some [] := rfl
theorem res_tmp {cfg : Cfg} {s : St} {t : Nat} {l : List ResultVar} {v : V} {vs : List V} (h : opV s.env (.tmp t) = some v) (h2 : resL cfg s l = some vs) : resL cfg s (.tmp t :: l) = some (v :: vs) := by
  simp only [resL,resV,h,h2,mp_some]
theorem res_cell {cfg : Cfg} {e : List (Nat × V)} {o : List (Nat × Ob)} {n : Nat} {t : Nat} {ty : TypeId} {l : List ResultVar} {z vx v : V} {vs : List V} {r : Option V} (hz : cfg.zero ty = some z) (h : opV e (.tmp t) = some vx) (hv : loadV ⟨[],o,n⟩ z vx = r) (hr : r = some v) (h2 : resL cfg ⟨e,o,n⟩ l = some vs) : resL cfg ⟨e,o,n⟩ (.cell t ty :: l) = some (v :: vs) := by
  have : loadV ⟨e,o,n⟩ z vx = some v := by
    rw [← hr,← hv]
    cases vx <;> rfl
  simp only [resL,resV,h,hz,h2,mp_some,this]
theorem loop_s {f k : Nat} {fn : Func} {body full : Code} {s s0 : St} {r : Ext × St} (hf : cf.code f = some fn) (hb : fn.body = some full) (hk : findLoop k full = some body) (hs : normE (fn.params.size + fn.nfree) (keepT f k) s = s0)
    (h : wpC oc cf f body s0 (fun e s' => match e with
      | .normal => oc.loop f k s' = some r
      | e => (e,normE (fn.params.size + fn.nfree) (outT f k) s') = r)) : oc.loop f k s = some r := by
  unfold cf oc at *
  exact wp_round hf hb hk hs h
theorem loop_ind {σ : Type} {f k np : Nat} {keep : Option (List Nat)} (μ : σ → Nat) (P : σ → Prop) (H : σ → St) (R : σ → Ext × St)
    (step : ∀ x,P x → (∀ y,P y → μ y < μ x → ∀ s',normE np keep s' = H y → oc.loop f k s' = some (R y)) → ∀ s,normE np keep s = H x → oc.loop f k s = some (R x)) :
    ∀ x,P x → ∀ s,normE np keep s = H x → oc.loop f k s = some (R x) := by
  have key : ∀ m x,μ x < m → P x → ∀ s,normE np keep s = H x → oc.loop f k s = some (R x) := by
    intro m
    induction m with
    | zero => intro x h;omega
    | succ m ih => intro x h hp;exact step x hp (fun y hy hm => ih y (by omega) hy)
  intro x
  exact key (μ x + 1) x (by omega)
theorem wc_loopI {fn : FuncId} {b : Code} {s : St} {Q : Ext → St → Prop} {c : Prop} [Decidable c] {e1 e2 : Ext} {s1 s2 : St} (h : oc.loop fn (keyOf b) s = some (if c then (e1,s1) else (e2,s2))) (h1 : c → Q e1 s1) (h2 : ¬ c → Q e2 s2) : wpC oc cf fn (.loop b) s Q := by
  by_cases hc : c
  · rw [if_pos hc] at h;exact ⟨_,h,h1 hc⟩
  · rw [if_neg hc] at h;exact ⟨_,h,h2 hc⟩
section
variable {call : Call} {cfg : Cfg} {id base : Nat} {e : List (Nat × V)} {o : List (Nat × Ob)} {n : Nat} {t : TypeId} {K : V → List (Nat × Ob) → Prop}
theorem k_callS {args : Array Operand} {ts : Array TypeId} {fo : Operand} {f : FuncId} {cs vs qs : List V} {sr : Option (List V)} {rv v : V} {ro : List V} {o1 : List (Nat × Ob)} {id' : Nat} (hx : opsV e args.toList = some vs) (hf : opV e fo = some (.clo f cs)) (hB : cfg.inB f = false) (hk : V.capsOk cs = true) (hl : lendV (cfg.md f) (vs ++ cs) ⟨e,o,n⟩ = some (vs ++ cs,⟨e,o,n⟩,[]))
    (hs : snapsV ⟨[],o,n⟩ (cfg.md f) (vs ++ cs) = sr) (hsr : sr = some qs) (hc : call f qs = some (rv,ro)) (hro : ro = []) (hid : id = id') (hw : ((plainM (cfg.md f) (vs ++ cs)).isEmpty = true ∨ rv.tidy = true ∧ V.tidyL ro = true) ∧ (rv.thaw id').2.2 ≤ id' + 32) (hv : (rv.thaw id').1 = v) (ho : (rv.thaw id').2.1 ++ o = o1)
    (h : K v o1) : opK call cfg id base e o n t (.call ⟨.value fo,args,ts⟩) K := by
  subst hro hv ho
  have hs : snapsV ⟨e,o,n⟩ (cfg.md f) (vs ++ cs) = some qs := by
    have := snaps_re e ⟨[],o,n⟩ (cfg.md f) (vs ++ cs)
    rw [hs,hsr] at this
    exact this
  exact k_call hx hf hB hk hl hs hc hid hw rfl rfl h
theorem k_indexQ {t' el : TypeId} {x ix : Operand} {k : IntKind} {a : Int} {q lo m j : Nat} {ob : Ob} {z y : V} (he : cfg.elem t' = some el) (hz : cfg.zero el = some z) (hx : opV e x = some (.ref q lo m)) (hi : opV e ix = some (.int k a)) (ho : geta o q = some ob) (hb : ob.bx = false) (h0 : 0 ≤ a) (hj : lo + a.toNat = j) (hm : a.toNat < m)
    (hy : ob.xs[j]? = some y) (hc : y.cells = z.cells) (h : K (.ptr q j []) o) : opK call cfg id base e o n t (.indexAddr t' x ix) K := by
  subst hj;exact k_indexR he hz hx hi ho hb h0 hm hy hc h
theorem k_storeS {t' : TypeId} {x y : Operand} {z vx vy : V} {o' : List (Nat × Ob)} {r : Option St} (hz : cfg.zero t' = some z) (hx : opV e x = some vx) (hy : opV e y = some vy) (hv : storeV ⟨[],o,n⟩ z vx vy = r) (hr : r = some ⟨[],o',n⟩) (h : K .und o') : opK call cfg id base e o n t (.store t' x y) K := by
  refine k_store hz hx hy ?_ h
  have := store_re e ⟨[],o,n⟩ z vy vx
  rw [hv,hr] at this
  exact this
theorem k_storeE {t' : TypeId} {x y : Operand} {z vy old old1 w : V} {q i v : Nat} {ob ob1 : Ob} {ws : List V} {o1 : List (Nat × Ob)} {r : Option (V × St)} (hz : cfg.zero t' = some z) (hx : opV e x = some (.ptr q i [])) (hy : opV e y = some vy) (ho : geta o q = some ob) (hb : ob.bx = false) (hg : ob.xs[i]? = some old) (ha : old.alike vy = true) (hz2 : z.alike vy = true)
    (hf : vy.fz ⟨[],o,n⟩ = r) (hr : r = some (w,⟨[],o1,n⟩)) (ho1 : geta o1 q = some ob1) (hg1 : ob1.xs[i]? = some old1) (ha1 : old1.alike w = true) (hs : ob1.xs.set i w = ws) (hv : (if (old1.scal && vy.scal) = true then ob1.ver else ob1.ver + 1) = v)
    (h : K .und ((q,⟨ob1.bx,ob1.fx,ob1.sz,ws,v⟩) :: o1)) : opK call cfg id base e o n t (.store t' x y) K := by
  subst hr hs hv
  have hf : vy.fz ⟨e,o,n⟩ = some (w,⟨e,o1,n⟩) := by
    have := fz_re e vy ⟨[],o,n⟩
    rw [hf] at this
    exact this
  refine k_store hz hx hy ?_ h
  simp only [storeV,ho,Ob.get,hg,getF,ha,hz2,and_self,if_true,hb,Bool.false_eq_true,if_false,hf,ho1,hg1,ha1,Ob.set,setF,mp_some,puta]
theorem set_at {α : Type} {l : List α} {i : Nat} {x y : α} (h : l[i]? = some x) : (l.set i y)[i]? = some y := by
  have := (List.getElem?_eq_some_iff.1 h).1
  simp [this]
theorem k_loadF {t' : TypeId} {x : Operand} {z y y0 w : V} {q i : Nat} {fs : List Nat} {ob : Ob} (hz : cfg.zero t' = some z) (hx : opV e x = some (.ptr q i fs)) (ho : geta o q = some ob) (hg : ob.xs[i]? = some y0) (hgf : getF y0 fs = some y) (hu : y ≠ .und) (ha : z.alike y = true) (hl : y.lod q i ob.ver fs = w) (h : K w o) : opK call cfg id base e o n t (.load t' x) K := by
  subst hl
  refine k_load hz hx ?_ h
  cases y <;> first | exact absurd rfl hu | simp only [loadV,ho,Ob.get,hg,hgf,ha,if_true]
theorem k_fieldAddrF {t' : TypeId} {x : Operand} {i k j : Nat} {fs : List Nat} {ob : Ob} {y y0 : V} (hx : opV e x = some (.ptr k j fs)) (ho : geta o k = some ob) (hg : ob.xs[j]? = some y0) (hgf : getF y0 fs = some y) (hf : fieldOk cfg t' y i = true) (h : K (.ptr k j (fs ++ [i])) o) : opK call cfg id base e o n t (.fieldAddr t' x i) K :=
  k_fieldAddrP hx ho (show ob.get j fs = some y by simp only [Ob.get,hg,hgf]) hf h
theorem k_storeF {t' : TypeId} {x y : Operand} {z vy old x0 x1 : V} {q i : Nat} {fs : List Nat} {ob : Ob} {ws : List V} (hz : cfg.zero t' = some z) (hx : opV e x = some (.ptr q i fs)) (hy : opV e y = some vy) (ho : geta o q = some ob) (hb : ob.bx = false) (hg : ob.xs[i]? = some x0) (hgf : getF x0 fs = some old) (ha : old.alike vy = true) (hz2 : z.alike vy = true)
    (hs1 : old.scal = true) (hs2 : vy.scal = true) (hsf : setF x0 fs vy = some x1) (hs : ob.xs.set i x1 = ws) (h : K .und ((q,⟨false,ob.fx,ob.sz,ws,ob.ver⟩) :: o)) : opK call cfg id base e o n t (.store t' x y) K := by
  subst hs
  refine k_store hz hx hy ?_ h
  simp only [storeV,ho,Ob.get,hg,hgf,ha,hz2,and_self,if_true,hb,Bool.false_eq_true,if_false,fz_scal hs2,Ob.set,hsf,mp_some,puta,hs1,hs2,Bool.and_self]
theorem k_loadS {t' : TypeId} {x : Operand} {z vx v : V} {r : Option V} (hz : cfg.zero t' = some z) (hx : opV e x = some vx) (hv : loadV ⟨[],o,n⟩ z vx = r) (hr : r = some v) (h : K v o) : opK call cfg id base e o n t (.load t' x) K := by
  refine k_load hz hx ?_ h
  rw [← hr,← hv]
  cases vx <;> rfl
theorem k_loadE {t' : TypeId} {x : Operand} {z y w : V} {q i : Nat} {ob : Ob} (hz : cfg.zero t' = some z) (hx : opV e x = some (.ptr q i [])) (ho : geta o q = some ob) (hg : ob.xs[i]? = some y) (hu : y ≠ .und) (ha : z.alike y = true) (hl : y.lod q i ob.ver [] = w) (h : K w o) : opK call cfg id base e o n t (.load t' x) K := by
  subst hl
  refine k_load hz hx ?_ h
  cases y <;> first | exact absurd rfl hu | simp only [loadV,ho,Ob.get,hg,getF,ha,if_true]
theorem k_appendS {args : Array Operand} {ts : Array TypeId} {t1 t2 e1 e2 : TypeId} {x y z : V} {ys ws bs : List V} {r1 : Option (List V × St)} {r2 : Option (Nat × List V × St)} {sz : Nat} {o1 o2 : List (Nat × Ob)} {id' m : Nat} (hx : opsV e args.toList = some [x,y]) (h1 : ts[0]? = some t1) (h2 : ts[1]? = some t2) (he1 : cfg.elem t1 = some e1) (hz : cfg.zero e1 = some z) (he2 : cfg.elem t2 = some e2)
    (hel : St.elems ⟨[],o,n⟩ base y = r1) (hel2 : r1 = some (ys,⟨[],o1,n⟩)) (hb : St.base ⟨[],o1,n⟩ (x.asRow z.cells) = r2) (hb2 : r2 = some (sz,bs,⟨[],o2,n⟩)) (hid : id = id') (hsz : sz = z.cells) (hc : V.cellsAll z.cells ys = true) (hw : bs ++ ys = ws) (hm : ws.length = m) (hlen : m < maxV)
    (h : K (.ref id' 0 m) ((id',⟨false,false,z.cells,ws,0⟩) :: o2)) : opK call cfg id base e o n t (.call ⟨.builtin .append,args,ts⟩) K := by
  subst hw hm
  have h3 : St.elems ⟨e,o,n⟩ base y = some (ys,⟨e,o1,n⟩) := by
    have := elems_re e ⟨[],o,n⟩ base y
    rw [hel,hel2] at this
    exact this
  have h4 : St.base ⟨e,o1,n⟩ (x.asRow z.cells) = some (sz,bs,⟨e,o2,n⟩) := by
    have := base_re e ⟨[],o1,n⟩ (x.asRow z.cells)
    rw [hb,hb2] at this
    exact this
  exact k_append (b:=(sz,bs,⟨e,o2,n⟩)) hx h1 h2 he1 hz he2 h3 h4 rfl hid hsz hc hlen h
theorem k_buildSliceS {t' el : TypeId} {m : Nat} {ps : Array (Nat × Operand)} {z : V} {l : List (Nat × V)} {ys : List V} {o1 : List (Nat × Ob)} {id' : Nat} {r : Option (List V × St)} (he : cfg.elem t' = some el) (hz : cfg.zero el = some z) (hp : partsV e ps.toList = some l) (hc : l.map (·.1) = List.range m ∧ m * z.cells ≤ 16777216 ∧ l.all (fun e => z.alike e.2) = true)
    (hf : V.fzL (l.map (·.2)) ⟨[],o,n⟩ = r) (hr : r = some (ys,⟨[],o1,n⟩)) (hid : id = id') (h : K (.ref id' 0 m) ((id',⟨false,false,z.cells,ys,0⟩) :: o1)) : opK call cfg id base e o n t (.buildSlice t' m ps) K :=
  k_buildSlice he hz hp hc (by
    have := fzL_re e (l.map (·.2)) ⟨[],o,n⟩
    rw [hf,hr] at this
    exact this) hid h
end
theorem bA_nil (i : Nat) : bindArgs i [] = ([],[]) := rfl
theorem bA_int (i : Nat) (k : IntKind) (a : Int) (r : List V) : bindArgs i (.int k a :: r) = ((i,.int k a) :: (bindArgs (i + 1) r).1,(bindArgs (i + 1) r).2) := rfl
theorem bA_bool (i : Nat) (a : Bool) (r : List V) : bindArgs i (.bool a :: r) = ((i,.bool a) :: (bindArgs (i + 1) r).1,(bindArgs (i + 1) r).2) := rfl
theorem bA_lstF (i : Nat) (s : Nat) (xs : List V) (r : List V) : bindArgs i (.lst false s xs :: r) = ((i,.lst false s xs) :: (bindArgs (i + 1) r).1,(bindArgs (i + 1) r).2) := rfl
theorem bA_lstT (i : Nat) (s : Nat) (xs : List V) (r : List V) : bindArgs i (.lst true s xs :: r) = ((i,.ref i 0 xs.length) :: (bindArgs (i + 1) r).1,(i,⟨false,false,s,xs,0⟩) :: (bindArgs (i + 1) r).2) := rfl
theorem bA_iol (i : Nat) (s : Nat) (xs : List V) (r : List V) : bindArgs i (.iol s xs :: r) = ((i,.ref i 0 xs.length) :: (bindArgs (i + 1) r).1,(i,⟨false,true,s,xs,0⟩) :: (bindArgs (i + 1) r).2) := rfl
theorem bA_iop (i : Nat) (x : V) (r : List V) : bindArgs i (.iop x :: r) = ((i,.ptr i 0 []) :: (bindArgs (i + 1) r).1,(i,⟨true,true,x.cells,[x],0⟩) :: (bindArgs (i + 1) r).2) := rfl
theorem bA_agg (i : Nat) (xs : List V) (r : List V) : bindArgs i (.agg xs :: r) = ((i,.agg xs) :: (bindArgs (i + 1) r).1,(bindArgs (i + 1) r).2) := rfl
theorem bA_clo (i : Nat) (f : FuncId) (xs : List V) (r : List V) : bindArgs i (.clo f xs :: r) = ((i,.clo f xs) :: (bindArgs (i + 1) r).1,(bindArgs (i + 1) r).2) := rfl
theorem bA_vptr (i : Nat) (x : V) (r : List V) : bindArgs i (.vptr x :: r) = ((i,.vptr x) :: (bindArgs (i + 1) r).1,(bindArgs (i + 1) r).2) := rfl
theorem wrap_nat {i : Nat} (h : i < 4611686018427387904) : IntKind.i64.wrap (i : Int) = i := by
  unfold IntKind.wrap;simp [IntKind.bits,IntKind.signed];omega
theorem wrap_succ {i : Nat} (h : i < 4611686018427387903) : IntKind.i64.wrap ((i : Int) + 1) = ((i + 1 : Nat) : Int) := wrap_nat (i:=i + 1) (by omega)
theorem wrap_id {a : Int} (h1 : -4611686018427387904 ≤ a) (h2 : a < 4611686018427387904) : IntKind.i64.wrap a = a := by
  unfold IntKind.wrap;simp [IntKind.bits,IntKind.signed];omega
def inI (a b c : Int) : Bool := decide (b ≤ a) && decide (a ≤ c)
def ints (l : List Int) : List V := l.map (.int .i64)
@[simp] theorem ints_len (l : List Int) : (ints l).length = l.length := by simp [ints]
@[simp] theorem ints_nil : ints [] = [] := rfl
@[simp] theorem ints_cons (x : Int) (l : List Int) : ints (x :: l) = .int .i64 x :: ints l := rfl
@[simp] theorem ints_snoc (l : List Int) (x : Int) : ints l ++ [.int .i64 x] = ints (l ++ [x]) := by simp [ints]
@[simp] theorem ints_join (l m : List Int) : ints l ++ ints m = ints (l ++ m) := by simp [ints]
theorem ints_get {l : List Int} {i : Nat} {x : Int} (h : l[i]? = some x) : (ints l)[i]? = some (.int .i64 x) := by simp [ints,h]
theorem ints_at {l : List Int} {i : Nat} (h : i < l.length) : (ints l)[(i : Int).toNat]? = some (.int .i64 l[i]) := ints_get (by simp [h])
theorem ints_cut {l : List Int} {i : Nat} (h : i < l.length) : ∃ x,l[i]? = some x ∧ l.drop i = x :: l.drop (i + 1) ∧ (ints l)[(i : Int).toNat]? = some (.int .i64 x) :=
  ⟨l[i],by simp [h],List.drop_eq_getElem_cons h,ints_at h⟩
@[simp] theorem ints_set (l : List Int) (i : Nat) (x : Int) : (ints l).set i (.int .i64 x) = ints (l.set i x) := by simp [ints,List.map_set]
@[simp] theorem replicate_ints (m : Nat) (x : Int) : List.replicate m (V.int .i64 x) = ints (List.replicate m x) := by simp [ints]
@[simp] theorem ints_take (n : Nat) (l : List Int) : (ints l).take n = ints (l.take n) := by simp [ints,List.map_take]
@[simp] theorem ints_drop (n : Nat) (l : List Int) : (ints l).drop n = ints (l.drop n) := by simp [ints,List.map_drop]
@[simp] theorem ints_share (l : List Int) : V.shareL (ints l) = ints l := by
  induction l with
  | nil => rfl
  | cons x l ih => simp [V.shareL,V.share,ih]
structure Nd where
  op : Int
  a : Int
  b : Int
  col : Int
  test : Int
  value : Int
  cells : List Int
  deriving DecidableEq
theorem Nd.eq_iff {d g : Nd} : d = g ↔ d.op = g.op ∧ d.a = g.a ∧ d.b = g.b ∧ d.col = g.col ∧ d.test = g.test ∧ d.value = g.value ∧ d.cells = g.cells := by
  cases d;cases g;simp
def Nd.v (t : Bool) (s : Nat) (n : Nd) : V := .agg [.int .i64 n.op,.int .i64 n.a,.int .i64 n.b,.int .i64 n.col,.int .i64 n.test,.int .i64 n.value,.lst t s (ints n.cells)]
def nds (t : Bool) (s : Nat) (l : List Nd) : List V := l.map (Nd.v t s)
@[simp] theorem nds_len (t : Bool) (s : Nat) (l : List Nd) : (nds t s l).length = l.length := by simp [nds]
@[simp] theorem nds_nil (t : Bool) (s : Nat) : nds t s [] = [] := rfl
@[simp] theorem nds_cons (t : Bool) (s : Nat) (x : Nd) (l : List Nd) : nds t s (x :: l) = x.v t s :: nds t s l := rfl
@[simp] theorem nds_snoc (t : Bool) (s : Nat) (l : List Nd) (x : Nd) : nds t s l ++ [x.v t s] = nds t s (l ++ [x]) := by simp [nds]
@[simp] theorem Nd.share (t : Bool) (s : Nat) (n : Nd) : (n.v t s).share = n.v false 0 := by simp [Nd.v,V.share,V.shareL]
@[simp] theorem Nd.snap (t : Bool) (s : Nat) (n : Nd) (q : St) : V.snap q (n.v t s) = some (n.v false 0) := by simp [Nd.v,V.snap,V.snapL,mp]
@[simp] theorem Nd.snapA (t : Bool) (s : Nat) (n : Nd) (q : St) : V.snapA q (n.v t s) = some (n.v false 0) := Nd.snap t s n q
@[simp] theorem Nd.snapP (t : Bool) (s : Nat) (n : Nd) (q : St) : V.snapP q (n.v t s) = some (n.v false 0) := Nd.snap t s n q
@[simp] theorem Nd.mention (t : Bool) (s : Nat) (n : Nd) : V.mention (n.v t s) = [] := by simp [Nd.v,V.mention,V.mentionL]
theorem Nd.thawT (s : Nat) (n : Nd) (id : Nat) : V.thaw id (n.v true s) = (.agg [.int .i64 n.op,.int .i64 n.a,.int .i64 n.b,.int .i64 n.col,.int .i64 n.test,.int .i64 n.value,.ref id 0 n.cells.length],[(id,⟨false,false,s,ints n.cells,0⟩)],id + 1) := by simp [Nd.v,V.thaw,V.thawL]
theorem Nd.thawF (s : Nat) (n : Nd) (id : Nat) : V.thaw id (n.v false s) = (n.v false s,[],id) := by simp [Nd.v,V.thaw,V.thawL]
theorem ints_tidy (l : List Int) : V.tidyL (ints l) = true := by
  induction l with
  | nil => rfl
  | cons x l ih => simp [V.tidyL,V.tidy,ih]
attribute [simp] Nd.thawT Nd.thawF ints_tidy
@[simp] theorem nds_setA (t : Bool) (s : Nat) (q : List Nd) (i : Nat) (a b c d e f : Int) (l : List Int) : (nds t s q).set i (V.agg [.int .i64 a,.int .i64 b,.int .i64 c,.int .i64 d,.int .i64 e,.int .i64 f,.lst t s (ints l)]) = nds t s (q.set i ⟨a,b,c,d,e,f,l⟩) := by simp [nds,Nd.v,List.map_set]
@[simp] theorem nds_take (t : Bool) (s n : Nat) (l : List Nd) : (nds t s l).take n = nds t s (l.take n) := by simp [nds,List.map_take]
@[simp] theorem nds_drop (t : Bool) (s n : Nat) (l : List Nd) : (nds t s l).drop n = nds t s (l.drop n) := by simp [nds,List.map_drop]
@[simp] theorem bA_nd (i : Nat) (t : Bool) (s : Nat) (n : Nd) (r : List V) : bindArgs i (n.v t s :: r) = ((i,n.v t s) :: (bindArgs (i + 1) r).1,(bindArgs (i + 1) r).2) := rfl
@[simp] theorem Nd.lodF (s : Nat) (n : Nd) (o i ver : Nat) (fs : List Nat) : V.lod o i ver fs (n.v false s) = n.v false s := by simp [Nd.v,V.lod,V.lodL]
@[simp] theorem Nd.accM (t : Bool) (s : Nat) (n : Nd) : V.accM (n.v t s) = [] := by simp [Nd.v,V.accM,V.accML]
@[simp] theorem Nd.accF (t : Bool) (s : Nat) (n : Nd) : V.accF (n.v t s) = [] := by simp [Nd.v,V.accF,V.accFL]
@[simp] theorem Nd.ren (t : Bool) (s : Nat) (n : Nd) (ρ : Nat → Option Nat) (vr : Nat → Nat) : V.ren ρ vr (n.v t s) = n.v t s := by simp [Nd.v,V.ren,V.renL]
@[simp] theorem nds_share (t : Bool) (s : Nat) (l : List Nd) : V.shareL (nds t s l) = nds false 0 l := by
  induction l with
  | nil => rfl
  | cons x l ih => simp [V.shareL,ih]
@[simp] theorem Nd.cells_v (t : Bool) (s : Nat) (n : Nd) : (n.v t s).cells = 7 := rfl
end Go.Proofs.Ytgkbmiaimjpbfaa.Ev
namespace Go.Proofs.Ytgkbmiaimjpbfaa.Ev
open Go
set_option linter.unusedVariables false
set_option linter.unusedSectionVars false
set_option maxRecDepth 100000
section
variable {call : Call} {draw : Bool} {all rest : List Oper} {base i : Nat} {tr : List (List (Nat × Acc))} {Q : St → List (List (Nat × Acc)) → Prop} {e : List (Nat × V)} {o : List (Nat × Ob)} {n : Nat} {d : Nat} {op : Op} {t : TypeId} {p : String} {af : Array Edge}
theorem w_ (h : opK call cf n base e o n t op (fun v o' => wpO call cf false all base (i + 1) rest ⟨(d,v) :: e,o',n + 32⟩ [] Q)) : wpO call cf false all base i (⟨some d,op,t,p,af,none⟩ :: rest) ⟨e,o,n⟩ [] Q := wo_k h
theorem w0 (h : opK call cf n base e o n t op (fun _ o' => wpO call cf false all base (i + 1) rest ⟨e,o',n + 32⟩ [] Q)) : wpO call cf false all base i (⟨none,op,t,p,af,none⟩ :: rest) ⟨e,o,n⟩ [] Q := wo_k0 h
theorem y_ (h : opK call.noI cf (base + 32 * i) base e o n t op (fun v o' => ∃ ac,accE cf (base + 32 * i) base ⟨e,o,n⟩ v op = ac ∧ wpO call cf true all base (i + 1) rest ⟨(d,v) :: e,o',n⟩ (ac :: tr) Q)) : wpO call cf true all base i (⟨some d,op,t,p,af,none⟩ :: rest) ⟨e,o,n⟩ tr Q := wd_k h
theorem y0 (h : opK call.noI cf (base + 32 * i) base e o n t op (fun v o' => ∃ ac,accE cf (base + 32 * i) base ⟨e,o,n⟩ v op = ac ∧ wpO call cf true all base (i + 1) rest ⟨e,o',n⟩ (ac :: tr) Q)) : wpO call cf true all base i (⟨none,op,t,p,af,none⟩ :: rest) ⟨e,o,n⟩ tr Q := wd_k0 h
theorem ax_ {id base : Nat} {s : St} {v : V} {op : Op} {ac : List (Nat × Acc)} {q : List (Nat × Acc) → Prop} (h1 : accE cf id base s v op = ac := by (simp [cf_md,mdT];rfl)) (h : q ac) : ∃ c,accE cf id base s v op = c ∧ q c := ⟨ac,h1,h⟩
theorem i_ {args : Array Operand} {ts : Array TypeId} {fo : Operand} {f : FuncId} {cs vs : List V} {v : V} {o' : List (Nat × Ob)} {m m' : Nat} (hx : opsV e args.toList = some vs := by exact rfl) (hf : opV e fo = some (.clo f cs) := by exact rfl) (hB : cf.inB f = true := by (rw [cf_in];rfl)) (hk : V.capsOk cs = true := by exact rfl)
    (hc : call.i f (vs ++ cs) ⟨e,o,n⟩ n = some (v,⟨e,o',m⟩)) (hm : max n m + 32 = m' := by (simp;rfl)) (h : wpO call cf false all base (i + 1) rest ⟨(d,v) :: e,o',m'⟩ [] Q) : wpO call cf false all base i (⟨some d,.call ⟨.value fo,args,ts⟩,t,p,af,none⟩ :: rest) ⟨e,o,n⟩ [] Q := wo_i hx hf hB hk hc hm h
theorem g_ {j : Nat} {want b : Bool} {dd : Option Tmp} (hb : ((all[j]?).bind (·.dst)).bind (geta e) = some (.bool b) := by exact rfl) (hw : b = want := by first | exact rfl | assumption) (h : wpO call cf draw all base i (⟨dd,op,t,p,af,none⟩ :: rest) ⟨e,o,n⟩ tr Q) : wpO call cf draw all base i (⟨dd,op,t,p,af,some (j,want)⟩ :: rest) ⟨e,o,n⟩ tr Q := wo_on hb hw h
theorem go_ {j : Nat} {want b : Bool} (hb : ((all[j]?).bind (·.dst)).bind (geta e) = some (.bool b) := by exact rfl) (hw : b = !want := by first | exact rfl | assumption) (h : wpO call cf false all base (i + 1) rest ⟨(d,.iop .und) :: e,o,n + 32⟩ [] Q) : wpO call cf false all base i (⟨some d,op,t,p,af,some (j,want)⟩ :: rest) ⟨e,o,n⟩ tr Q := wo_off hb hw h
theorem gd_ {j : Nat} {want b : Bool} (hb : ((all[j]?).bind (·.dst)).bind (geta e) = some (.bool b) := by exact rfl) (hw : b = !want := by first | exact rfl | assumption) (h : wpO call cf true all base (i + 1) rest ⟨(d,.iop .und) :: e,o,n⟩ ([] :: tr) Q) : wpO call cf true all base i (⟨some d,op,t,p,af,some (j,want)⟩ :: rest) ⟨e,o,n⟩ tr Q := wd_off hb hw h
theorem gw_ {j : Nat} {want b : Bool} {dd : Option Tmp} (hb : ((all[j]?).bind (·.dst)).bind (geta e) = some (.bool b) := by exact rfl)
    (h1 : b = want → wpO call cf draw all base i (⟨dd,op,t,p,af,some (j,want)⟩ :: rest) ⟨e,o,n⟩ tr Q) (h2 : b = !want → wpO call cf draw all base i (⟨dd,op,t,p,af,some (j,want)⟩ :: rest) ⟨e,o,n⟩ tr Q) :
    wpO call cf draw all base i (⟨dd,op,t,p,af,some (j,want)⟩ :: rest) ⟨e,o,n⟩ tr Q := wo_ways hb h1 h2
end
theorem oc_inl {f : FuncId} {args : List V} {s : St} {id : Nat} {x : V × St} (hp : cf.plB f = false) (h : inlE oc.call cf f args s id = some x) : oc.call.i f args s id = some x := by
  unfold cf oc at *
  exact or_inl hp h
theorem inl_s {f : FuncId} {fn : Func} {body : Code} {args : List V} {e ev : List (Nat × V)} {o o' : List (Nat × Ob)} {n id m : Nat} {v : V} (hp : cf.plB f = false) (hf : cf.code f = some fn) (hb : fn.body = some body) (hl : args.length = fn.params.size + fn.nfree) (he : rawArgs 0 args = ev)
    (h : wpC ⟨oc.call,fun _ _ _ => none⟩ cf f body ⟨ev,o,id⟩ (fun t s => (t = .normal ∨ t = .ret) ∧ ∃ vs,resL cf s fn.results.toList = some vs ∧ vs.all (fun v => !v.isTup) = true ∧ (oneV vs,(⟨e,s.obs,s.nxt⟩ : St)) = (v,⟨e,o',m⟩))) : oc.call.i f args ⟨e,o,n⟩ id = some (v,⟨e,o',m⟩) := by
  subst he
  refine oc_inl hp ?_
  obtain ⟨r,h1,h2,vs,h3,h4,h5⟩ := h
  unfold inlE
  simp only [hf,hb,if_pos hl,h1,if_pos h2,h3,if_pos h4,h5]
section
variable {all rest : List Oper} {base i : Nat} {Q : St → List (List (Nat × Acc)) → Prop} {e : List (Nat × V)} {o : List (Nat × Ob)} {n : Nat} {d : Nat} {t : TypeId} {p : String} {af : Array Edge}
theorem iE {call : Call} {args : Array Operand} {ts : Array TypeId} {fo : Operand} {f : FuncId} {cs vs : List V} (hx : opsV e args.toList = some vs := by exact rfl) (hf : opV e fo = some (.clo f cs) := by exact rfl) (hB : cf.inB f = true := by (rw [cf_in];rfl)) (hk : V.capsOk cs = true := by exact rfl)
    (h : ∃ v o' m,call.i f (vs ++ cs) ⟨e,o,n⟩ n = some (v,⟨e,o',m⟩) ∧ ∃ m',max n m + 32 = m' ∧ wpO call cf false all base (i + 1) rest ⟨(d,v) :: e,o',m'⟩ [] Q) : wpO call cf false all base i (⟨some d,.call ⟨.value fo,args,ts⟩,t,p,af,none⟩ :: rest) ⟨e,o,n⟩ [] Q := by
  obtain ⟨v,o',m,hc,m',hm,h⟩ := h
  exact i_ hx hf hB hk hc hm h
end
section
variable {call : Call} {id base : Nat} {e : List (Nat × V)} {o : List (Nat × Ob)} {n : Nat} {t : TypeId} {K : V → List (Nat × Ob) → Prop}
theorem k_eq {op : Op} {v : V} (h1 : opK call cf id base e o n t op (fun v' o' => v' = v ∧ o' = o)) (h : K v o) : opK call cf id base e o n t op K := by
  obtain ⟨v',o',h2,rfl,rfl⟩ := h1;exact ⟨_,_,h2,h⟩
theorem m_ {x : Operand} {v : V} (hx : opV e x = some v := by exact rfl) (hn : nilC x = false := by exact rfl) (h : K v o) : opK call cf id base e o n t (.move x) K := k_move hx hn h
theorem a_ {x : Operand} {v : V} (hx : opV e x = some v := by exact rfl) (hn : nilC x = false := by exact rfl) (h : K v o) : opK call cf id base e o n t (.assign x) K := k_assign hx hn h
theorem aP (h : K .und o) : opK call cf id base e o n t (.assign (.const (.pointer none))) K := k_nilP h
theorem aN {el : TypeId} {z : V} (he : cf.elem t = some el := by exact tys_ok.elem _ _ rfl) (hz : cf.zero el = some z := by exact tys_ok.zero _ _ rfl) (h : K (.lst true z.cells []) o) : opK call cf id base e o n t (.assign (.const (.slice none 0 0))) K := k_nil he hz h
theorem b_ {op : BinOp} {t' t2 : TypeId} {x y : Operand} {k : IntKind} {a b : Int} {v : V} (hx : opV e x = some (.int k a) := by exact rfl) (hy : opV e y = some (.int k b) := by exact rfl) (hn : nilC y = false := by exact rfl) (hv : intV op k a b = some v := by first | exact rfl | (simp only [intV];rw [if_neg (by first | assumption | omega)])) (h : K v o) : opK call cf id base e o n t (.binOp op t' x y t2) K := k_bin hx hy hn hv h
theorem bE {op : BinOp} {t' t2 : TypeId} {x y : Operand} {v : V}
    (h1 : opK call cf id base e o n t (.binOp op t' x y t2) (fun v' o' => v' = v ∧ o' = o) := by
      first
      | exact k_bin rfl rfl rfl rfl ⟨rfl,rfl⟩
      | exact k_binB (tys_ok.zero _ _ rfl) rfl rfl rfl (.inl ⟨rfl,rfl⟩) ⟨rfl,rfl⟩
      | exact k_binB (tys_ok.zero _ _ rfl) rfl rfl rfl (.inr ⟨rfl,rfl⟩) ⟨rfl,rfl⟩) (h : K v o) : opK call cf id base e o n t (.binOp op t' x y t2) K := k_eq h1 h
theorem bN {op : BinOp} {t' t2 : TypeId} {x y : Operand} {v : V}
    (h1 : opK call cf id base e o n t (.binOp op t' x y t2) (fun v' o' => v' = v ∧ o' = o) := by
      first
      | exact k_isNil (tys_ok.elem _ _ rfl) rfl rfl ⟨rfl,rfl⟩
      | exact k_notNil (tys_ok.elem _ _ rfl) rfl rfl (by assumption) ⟨rfl,rfl⟩) (h : K v o) : opK call cf id base e o n t (.binOp op t' x y t2) K := k_eq h1 h
theorem sh {op : BinOp} {t' t2 : TypeId} {x y : Operand} {vx vy v : V} (hx : opV e x = some vx := by exact rfl) (hy : opV e y = some vy := by exact rfl) (hn : nilC y = false := by exact rfl) (ho : op = .shl ∨ op = .shr := by simp) (hv : shiftV op vx vy = some v := by exact rfl) (h : K v o) : opK call cf id base e o n t (.binOp op t' x y t2) K := k_shift hx hy hn ho hv h
theorem u_ {op : UnOp} {t' : TypeId} {x : Operand} {vx v : V} (hx : opV e x = some vx := by exact rfl) (hv : unV op vx = some v := by exact rfl) (h : K v o) : opK call cf id base e o n t (.unOp op t' x) K := k_un hx hv h
theorem l_ {t' : TypeId} {x : Operand} {v : V}
    (h1 : opK call cf id base e o n t (.load t' x) (fun v' o' => v' = v ∧ o' = o) := by
      first
      | exact k_load (tys_ok.zero _ _ rfl) rfl rfl ⟨rfl,rfl⟩
      | exact k_loadE (tys_ok.zero _ _ rfl) rfl rfl (by assumption) (by simp [Nd.v]) (by first | rfl | simp) (by first | rfl | (simp;rfl)) ⟨rfl,rfl⟩
      | exact k_loadF (tys_ok.zero _ _ rfl) rfl rfl (by first | assumption | exact set_at (by assumption)) rfl (by simp) rfl rfl ⟨rfl,rfl⟩
      | exact k_loadS (tys_ok.zero _ _ rfl) rfl (by simp [*];rfl) (by rfl) ⟨rfl,rfl⟩) (h : K v o) : opK call cf id base e o n t (.load t' x) K := k_eq h1 h
theorem s_ {t' : TypeId} {x y : Operand} {o1 : List (Nat × Ob)}
    (h1 : opK call cf id base e o n t (.store t' x y) (fun v' o' => v' = .und ∧ o' = o1) := by
      first
      | exact k_storeE (tys_ok.zero _ _ rfl) rfl rfl rfl rfl (by assumption) (by first | rfl | simp) (by first | rfl | simp) (by simp;rfl) (by rfl) (by rfl) (by assumption) (by first | rfl | simp) (by simp;rfl) (by simp;rfl) ⟨rfl,rfl⟩
      | exact k_storeF (tys_ok.zero _ _ rfl) rfl rfl rfl rfl (by first | assumption | exact set_at (by assumption)) rfl rfl rfl rfl rfl rfl (by (try simp only [List.set_set]);rfl) ⟨rfl,rfl⟩
      | exact k_storeS (tys_ok.zero _ _ rfl) rfl rfl (by simp [*];rfl) (by rfl) ⟨rfl,rfl⟩) (h : K .und o1) : opK call cf id base e o n t (.store t' x y) K := by
  obtain ⟨v',o',h2,rfl,rfl⟩ := h1;exact ⟨_,_,h2,h⟩
theorem f_ {t' : TypeId} {x : Operand} {i : Nat} {v : V}
    (h1 : opK call cf id base e o n t (.fieldAddr t' x i) (fun v' o' => v' = v ∧ o' = o) := by
      first
      | exact k_fieldAddrP rfl rfl rfl (fieldT_ok tys_ok (Y:=tys) rfl) ⟨rfl,rfl⟩
      | exact k_fieldAddrV rfl (fieldT_ok tys_ok (Y:=tys) rfl) rfl ⟨rfl,rfl⟩
      | exact k_fieldAddrF rfl rfl (by first | assumption | exact set_at (by assumption)) rfl (fieldT_ok tys_ok (Y:=tys) rfl) ⟨rfl,rfl⟩) (h : K v o) : opK call cf id base e o n t (.fieldAddr t' x i) K := k_eq h1 h
theorem fi {t' : TypeId} {x : Operand} {i : Nat} {xs : List V} {y : V} (hx : opV e x = some (.agg xs) := by exact rfl) (hf : fieldOk cf t' (.agg xs) i = true := by exact (fieldT_ok tys_ok (Y:=tys) rfl)) (hy : xs[i]? = some y := by exact rfl) (h : K y o) : opK call cf id base e o n t (.field t' x i) K := k_field hx hf hy h
theorem x_ {t' : TypeId} {x ix : Operand} {v : V}
    (h1 : opK call cf id base e o n t (.indexAddr t' x ix) (fun v' o' => v' = v ∧ o' = o) := by
      first
      | exact k_index (tys_ok.elem _ _ rfl) (tys_ok.zero _ _ rfl) rfl rfl (by omega) (by assumption) (by first | rfl | (simp [*] <;> fail)) ⟨rfl,rfl⟩
      | exact k_index (tys_ok.elem _ _ rfl) (tys_ok.zero _ _ rfl) rfl rfl (by omega) (by simp [*]) (by first | rfl | (simp [*] <;> fail)) ⟨rfl,rfl⟩
      | exact k_indexQ (tys_ok.elem _ _ rfl) (tys_ok.zero _ _ rfl) rfl rfl rfl rfl (by omega) (by simp;rfl) (by first | omega | simp [*]) (by assumption) (by first | rfl | (simp [*] <;> fail)) ⟨rfl,rfl⟩
      | exact k_indexQ (tys_ok.elem _ _ rfl) (tys_ok.zero _ _ rfl) rfl rfl rfl rfl (by omega) (by simp;rfl) (by first | omega | simp [*]) (by exact set_at (by assumption)) (by first | rfl | simp) ⟨rfl,rfl⟩
      | exact k_indexQ (tys_ok.elem _ _ rfl) (tys_ok.zero _ _ rfl) rfl rfl rfl rfl (by omega) (by simp;rfl) (by first | omega | simp [*]) (by simp [*];rfl) (by first | rfl | (simp [*] <;> fail)) ⟨rfl,rfl⟩) (h : K v o) : opK call cf id base e o n t (.indexAddr t' x ix) K := k_eq h1 h
theorem al {t' : TypeId} {z : V} {id' : Nat} (hz : cf.zero t' = some z := by exact tys_ok.zero _ _ rfl) (hid : id = id' := by ((try simp);rfl)) (h : K (.ptr id' 0 []) ((id',⟨true,false,z.cells,[z],0⟩) :: o)) : opK call cf id base e o n t (.alloc t') K := k_alloc hz hid h
theorem bx {t' : TypeId} {x : Operand} {v z : V} {id' : Nat} (hx : opV e x = some v := by exact rfl) (hz : cf.zero t' = some z := by exact tys_ok.zero _ _ rfl) (hid : id = id' := by ((try simp);rfl)) (hc : z.alike v = true := by exact rfl) (ht : v.isTup = false := by exact rfl) (h : K (.ptr id' 0 []) ((id',⟨true,false,z.cells,[v],0⟩) :: o)) : opK call cf id base e o n t (.box t' x) K := k_box hx hz hid hc ht h
theorem pk {c x y : Operand} {v : V}
    (h1 : opK call cf id base e o n t (.pick c x y) (fun v' o' => v' = v ∧ o' = o) := by
      first
      | exact k_pickT rfl (by first | rfl | assumption) rfl ⟨rfl,rfl⟩
      | exact k_pickF rfl (by first | rfl | assumption) rfl ⟨rfl,rfl⟩) (h : K v o) : opK call cf id base e o n t (.pick c x y) K := k_eq h1 h
theorem ex {x : Operand} {i : Nat} {xs : List V} {y : V} (hx : opV e x = some (.tup xs) := by exact rfl) (hy : xs[i]? = some y := by exact rfl) (h : K y o) : opK call cf id base e o n t (.extract x i) K := k_extract hx hy h
theorem nc {x : Operand} {v : V}
    (h1 : opK call cf id base e o n t (.nilCheck x) (fun v' o' => v' = v ∧ o' = o) := by
      first
      | exact k_nilCheckV rfl ⟨rfl,rfl⟩
      | exact k_nilCheckP rfl ⟨rfl,rfl⟩) (h : K v o) : opK call cf id base e o n t (.nilCheck x) K := k_eq h1 h
theorem cv {ts t' : TypeId} {x : Operand} {k0 k k1 : IntKind} {a : Int} (h0 : cf.ints ts = some k0 := by exact tys_ok.ints _ _ rfl) (h1 : cf.ints t' = some k := by exact tys_ok.ints _ _ rfl) (hx : opV e x = some (.int k1 a) := by exact rfl) (h : K (.int k (k.wrap a)) o) : opK call cf id base e o n t (.convert ts t' x) K := k_convert h0 h1 hx h
theorem mf {f : FuncId} {caps : Array Operand} {cs : List V} (hx : opsV e caps.toList = some cs := by exact rfl) (hk : V.capsOk cs = true := by exact rfl) (h : K (.clo f cs) o) : opK call cf id base e o n t (.makeFunc (.func f) #[] caps) K := k_makeFunc hx hk h
theorem mk {t' el : TypeId} {x y : Operand} {k k' : IntKind} {a : Int} {z : V} {id' : Nat} (hx : opV e x = some (.int k a) := by exact rfl) (hy : opV e y = some (.int k' a) := by exact rfl) (he : cf.elem t' = some el := by exact tys_ok.elem _ _ rfl) (hz : cf.zero el = some z := by exact tys_ok.zero _ _ rfl) (hid : id = id' := by ((try simp);rfl)) (h0 : 0 ≤ a := by (simp [*];try omega)) (h1 : a < maxV := by (simp [*];try omega))
    (h : K (.ref id' 0 a.toNat) ((id',⟨false,false,z.cells,List.replicate a.toNat z,0⟩) :: o)) : opK call cf id base e o n t (.makeSlice t' x y) K := k_makeSlice hx hy he hz hid h0 h1 h
theorem sl {t' el : TypeId} {x : Operand} {lo hi : Option Operand} {vx z v : V} {vl vh : Option V} {m a b : Int} (hx : opV e x = some vx := by exact rfl) (hl : optV e lo = some vl := by exact rfl) (hh : optV e hi = some vh := by exact rfl) (he : cf.elem t' = some el := by exact tys_ok.elem _ _ rfl) (hz : cf.zero el = some z := by exact tys_ok.zero _ _ rfl) (hm : lenV vx = some m := by exact rfl)
    (ha : bound vl 0 = some a := by exact rfl) (hb : bound vh m = some b := by exact rfl) (hc : 0 ≤ a ∧ a ≤ b ∧ b ≤ m := by first | omega | (simp [*];done) | (simp [*];omega)) (hv : cutV ⟨e,o,n⟩ z.cells vx a b = some v := by first | exact rfl | (simp [*];rfl)) (h : K v o) : opK call cf id base e o n t (.slice t' x lo hi none) K := k_slice hx hl hh he hz hm ha hb hc hv h
theorem le {args : Array Operand} {ts : Array TypeId} {t' el : TypeId} {x : V} {m : Int} (hx : opsV e args.toList = some [x] := by exact rfl) (ht : ts[0]? = some t' := by exact rfl) (he : cf.elem t' = some el := by exact tys_ok.elem _ _ rfl) (hm : lenV x = some m := by exact rfl) (h : K (.int .i64 m) o) : opK call cf id base e o n t (.call ⟨.builtin .len,args,ts⟩) K := k_len hx ht he hm h
theorem cl {args : Array Operand} {ts : Array TypeId} {t1 e1 : TypeId} {z : V} {q lo m : Nat} {ob : Ob} {ws : List V} (hx : opsV e args.toList = some [.ref q lo m] := by exact rfl) (h1 : ts[0]? = some t1 := by exact rfl) (he : cf.elem t1 = some e1 := by exact tys_ok.elem _ _ rfl) (hz : cf.zero e1 = some z := by exact tys_ok.zero _ _ rfl) (ho : geta o q = some ob := by exact rfl) (hb : ob.bx = false := by rfl) (hf : ob.fx = false := by rfl) (hs : ob.sz = z.cells := by rfl) (hm : 0 < m := by omega) (hl : lo + m = ob.xs.length := by (simp <;> omega)) (hw : ob.xs.take lo = ws := by ((try simp);rfl))
    (h : K .und ((q,⟨ob.bx,ob.fx,ob.sz,ws,ob.ver + 1⟩) :: o)) : opK call cf id base e o n t (.call ⟨.builtin .clear,args,ts⟩) K := by
  subst hw
  exact k_clear hx h1 he hz ho ⟨hb,hf,hs,hm,hl⟩ h
theorem cc {args : Array Operand} {ts : Array TypeId} {t' el : TypeId} (hx : opsV e args.toList = some [.emp true] := by exact rfl) (ht : ts[0]? = some t' := by exact rfl) (he : cf.elem t' = some el := by exact tys_ok.elem _ _ rfl) (h : K (.int .i64 0) o) : opK call cf id base e o n t (.call ⟨.builtin .cap,args,ts⟩) K := k_cap hx ht he h
theorem mi {args : Array Operand} {ts : Array TypeId} {vs : List V} {v : V} (hx : opsV e args.toList = some vs := by exact rfl) (hv : minV vs = some v := by exact rfl) (h : K v o) : opK call cf id base e o n t (.call ⟨.builtin .min,args,ts⟩) K := k_min hx hv h
theorem ap {args : Array Operand} {ts : Array TypeId} {t1 t2 e1 e2 : TypeId} {x y z : V} {ys ws bs : List V} {r1 : Option (List V × St)} {r2 : Option (Nat × List V × St)} {sz : Nat} {o1 o2 : List (Nat × Ob)} {id' m : Nat} (hx : opsV e args.toList = some [x,y] := by exact rfl) (h1 : ts[0]? = some t1 := by exact rfl) (h2 : ts[1]? = some t2 := by exact rfl) (he1 : cf.elem t1 = some e1 := by exact tys_ok.elem _ _ rfl) (hz : cf.zero e1 = some z := by exact tys_ok.zero _ _ rfl) (he2 : cf.elem t2 = some e2 := by exact tys_ok.elem _ _ rfl)
    (hel : St.elems ⟨[],o,n⟩ base y = r1 := by (simp;rfl)) (hel2 : r1 = some (ys,⟨[],o1,n⟩) := by rfl) (hb : St.base ⟨[],o1,n⟩ (x.asRow z.cells) = r2 := by (simp;rfl)) (hb2 : r2 = some (sz,bs,⟨[],o2,n⟩) := by rfl) (hid : id = id' := by ((try simp);rfl)) (hsz : sz = z.cells := by rfl) (hc : V.cellsAll z.cells ys = true := by (simp [*];try rfl)) (hw : bs ++ ys = ws := by ((try simp);rfl)) (hm : ws.length = m := by ((try simp);rfl)) (hlen : m < maxV := by (simp <;> omega))
    (h : K (.ref id' 0 m) ((id',⟨false,false,z.cells,ws,0⟩) :: o2)) : opK call cf id base e o n t (.call ⟨.builtin .append,args,ts⟩) K := k_appendS hx h1 h2 he1 hz he2 hel hel2 hb hb2 hid hsz hc hw hm hlen h
theorem apZ {args : Array Operand} {ts : Array TypeId} {t1 t2 e1 : TypeId} {z : V} {k k2 : IntKind} {m : Int} {id' : Nat} (hx : opsV e args.toList = some [.emp true,.int k m] := by exact rfl) (h1 : ts[0]? = some t1 := by exact rfl) (h2 : ts[1]? = some t2 := by exact rfl) (he1 : cf.elem t1 = some e1 := by exact tys_ok.elem _ _ rfl) (hz : cf.zero e1 = some z := by exact tys_ok.zero _ _ rfl) (hi : cf.ints t2 = some k2 := by exact tys_ok.ints _ _ rfl) (hid : id = id' := by ((try simp);rfl)) (h0 : 0 < m := by first | assumption | omega) (hm : m < maxV := by first | (unfold maxV;omega) | (simp <;> omega))
    (h : K (.ref id' 0 m.toNat) ((id',⟨false,false,z.cells,List.replicate m.toNat z,0⟩) :: o)) : opK call cf id base e o n t (.call ⟨.builtin .append,args,ts⟩) K := k_appendZ hx h1 h2 he1 hz hi hid h0 hm h
theorem bd {t' : TypeId} {ps : Array (Nat × Operand)} {zs xs : List V} {l : List (Nat × V)} {fl : List (Nat × TypeId)} (hz : cf.zero t' = some (.agg zs) := by exact tys_ok.zero _ _ rfl) (hf : cf.flds t' = some fl := by exact tys_ok.flds _ _ rfl) (hp : partsV e ps.toList = some l := by exact rfl) (hv : setParts cf t' zs l = some xs := by exact (partsT_ok tys_ok (Y:=tys) rfl)) (h : K (.agg xs) o) : opK call cf id base e o n t (.build t' ps) K := k_build hz hf hp hv h
theorem bs {t' el : TypeId} {m : Nat} {ps : Array (Nat × Operand)} {z : V} {l : List (Nat × V)} {ys : List V} {o1 : List (Nat × Ob)} {id' : Nat} {r : Option (List V × St)} (he : cf.elem t' = some el := by exact tys_ok.elem _ _ rfl) (hz : cf.zero el = some z := by exact tys_ok.zero _ _ rfl) (hp : partsV e ps.toList = some l := by exact rfl) (hc : l.map (·.1) = List.range m ∧ m * z.cells ≤ 16777216 ∧ l.all (fun e => z.alike e.2) = true := by exact ⟨rfl,by first | decide | simp,by simp⟩)
    (hf : V.fzL (l.map (·.2)) ⟨[],o,n⟩ = r := by (simp;rfl)) (hr : r = some (ys,⟨[],o1,n⟩) := by rfl) (hid : id = id' := by ((try simp);rfl)) (h : K (.ref id' 0 m) ((id',⟨false,false,z.cells,ys,0⟩) :: o1)) : opK call cf id base e o n t (.buildSlice t' m ps) K := k_buildSliceS he hz hp hc hf hr hid h
theorem ca {args : Array Operand} {ts : Array TypeId} {fo : Operand} {f : FuncId} {cs vs qs : List V} {sr : Option (List V)} {rv v : V} {o1 : List (Nat × Ob)} {id' : Nat} (hx : opsV e args.toList = some vs := by exact rfl) (hf : opV e fo = some (.clo f cs) := by exact rfl) (hB : cf.inB f = false := by (rw [cf_in];rfl)) (hk : V.capsOk cs = true := by exact rfl) (hl : lendV (cf.md f) (vs ++ cs) ⟨e,o,n⟩ = some (vs ++ cs,⟨e,o,n⟩,[]) := by (rw [cf_md];rfl))
    (hs : snapsV ⟨[],o,n⟩ (cf.md f) (vs ++ cs) = sr := by (simp [cf_md,mdT];rfl)) (hsr : sr = some qs := by first | rfl | (simp [*] <;> fail)) (hc : call f qs = some (rv,[])) (hid : id = id' := by ((try simp);rfl)) (hw : ((plainM (cf.md f) (vs ++ cs)).isEmpty = true ∨ rv.tidy = true ∧ V.tidyL ([] : List V) = true) ∧ (rv.thaw id').2.2 ≤ id' + 32 := by simp [cf_md,mdT]) (hv : (rv.thaw id').1 = v := by (simp;rfl)) (ho : (rv.thaw id').2.1 ++ o = o1 := by (simp;rfl))
    (h : K v o1) : opK call cf id base e o n t (.call ⟨.value fo,args,ts⟩) K := k_callS hx hf hB hk hl hs hsr hc rfl hid hw hv ho h
end
section
variable {orc : Orc} {fn : FuncId} {Q : Ext → St → Prop} {s : St}
theorem e_ {ev : List (Nat × V)} {o : List (Nat × Ob)} {m n' : Nat} {tr : List (List (Nat × Acc))} (hn : m = n' := by ((try simp);rfl)) (h : Q .normal ⟨ev,o,n'⟩) : endQ Q ⟨ev,o,m⟩ tr := end_mk hn h
theorem ed {ev : List (Nat × V)} {o : List (Nat × Ob)} {m n n' k : Nat} {bits : List Nat} {tr : List (List (Nat × Acc))} (hn : n = n' := by (simp;rfl)) (hc : calmE bits k tr = true := by first | rfl | simp) (h : Q .normal ⟨ev,o,n'⟩) : endD Q n bits k ⟨ev,o,m⟩ tr := endD_mk hn hc h
theorem c_ {c : Operand} {a b : Code} {v : Bool} (hc : opV s.env c = some (.bool v) := by exact rfl) (h1 : v = true → wpC orc cf fn a s Q) (h2 : v = false → wpC orc cf fn b s Q) : wpC orc cf fn (.cond c a b) s Q := wc_cond hc h1 h2
theorem fin_ {e : Ext} {s : St} {fn : Func} {args : List V} {x : V × List V} {vs : List V} {r : Option (List V × St)} {q : List V × St} {os : List V} (he : e = .normal ∨ e = .ret := by simp)
    (hr : resL cf s fn.results.toList = some vs)
    (hz : V.fzL vs ⟨[],s.obs,s.nxt⟩ = r := by (simp;rfl)) (hq : r = some q := by rfl) (ho : outsV 0 args q.2 = some os := by (simp;rfl)) (h : (oneV q.1,os) = x) :
    (e = .normal ∨ e = .ret) ∧ ∃ vs,resL cf s fn.results.toList = some vs ∧ ∃ r,V.fzL vs ⟨[],s.obs,s.nxt⟩ = r ∧ ∃ q,r = some q ∧ ∃ os,outsV 0 args q.2 = some os ∧ (oneV q.1,os) = x :=
  ⟨he,vs,hr,r,hz,q,hq,os,ho,h⟩
theorem dn {p c : Prop} (h : c) (hf : c → False := by first | (simp;done) | (intro c;(try simp at c);omega)) : p := (hf h).elim
theorem wa_ {a b : Code} (h : wpC orc cf fn a s (aftQ orc cf fn b Q)) : wpC orc cf fn (.seq a b) s Q := wc_seq h
end
attribute [simp] rawArgs mp_some mp_none V.aggOf St.copyRow St.moveRow St.copyPlc backOne cutV rowAddr opE opV constV geta puta dela intV binV shiftV unV bA_nil bA_int bA_bool bA_lstF bA_lstT bA_iol bA_iop bA_agg bA_clo bA_vptr resL resV V.fz V.fzL V.fzI V.fzIL outsV opsV partsV setParts builtinV lenV callV lendV lendOne snapsV plainM backs V.snap V.snapL sA_int sA_bool sA_lst sA_emp sA_agg sA_ref sA_plc sA_vptr sA_clo sA_ptr sP_int sP_bool sP_lst sP_emp sP_agg sP_ref sP_plc sP_vptr sP_ptr V.snapPL V.thaw V.thawL V.tidy V.tidyL V.share V.shareL indexAddrV fieldAddrV loadV storeV V.cells V.cellsL keepEnv liveIds nodups posOf renOf renObs verOf sortObs V.ren V.renL V.mention V.mentionL keyOf boxesOf boxF findLoop St.put St.new St.at St.take St.takeQ St.give St.elems St.base appendV Ob.get Ob.set getF setF V.alike V.alikeL V.scal V.scalL V.lod V.lodL fieldOk offs rowOf oneV guardE sliceV bound optV accE accOne accLend accSnap accS V.accM V.accML V.accF V.accFL accArgs accAll calmE clashL Acc.clash beforeE maxV nilC opT V.isTup V.capsOk V.argOk V.bare V.bareL V.cellsAll V.asRow V.asRow
end Go.Proofs.Ytgkbmiaimjpbfaa.Ev
namespace Go.Proofs.Ytgkbmiaimjpbfaa.Ev
open Go
set_option maxRecDepth 100000
set_option linter.unusedSimpArgs false
set_option linter.unusedVariables false
set_option maxHeartbeats 2000000
theorem e_in (a b c : Int) : oc.call 150 [.int .i64 a,.int .i64 b,.int .i64 c] = some (.bool (inI a b c),[]) := by
 refine fun_s rfl cd150 rfl rfl rfl (by simp;rfl) (by simp;rfl) ?_
 refine wa_ (wc_region (w_ (a_ (h:=wo_nil (e_ (h:=aft_normal (wa_ (wc_region (w_ (m_ (h:=w_ (m_ (h:=w_ (b_ (h:=w_ (m_ (h:=?_)))))))))))))))))
 refine gw_ (h1:=?_) (h2:=?_)
 rotate_right 1
 focus
  intro c1
  refine go_ (h:=go_ (h:=go_ (h:=?_)))
 rotate_right 1
 focus
  intro c1
  refine g_ (h:=w_ (m_ (h:=g_ (h:=w_ (m_ (h:=g_ (h:=w_ (b_ (h:=?_)))))))))
 all_goals
  refine w_ (pk (h:=w_ (a_ (h:=wo_nil (e_ (h:=?_))))))
 all_goals first
 | (
  refine aft_normal ?_
  refine wc_ret (?_)
  )
 all_goals (refine fin_ (hr:=(res_tmp rfl res_nil)) (h:=?_);(focus (simp_all [inI] <;> omega)))
theorem e_l1In (a b c : Int) : oc.call 108 [.int .i64 a,.int .i64 b,.int .i64 c] = some (.bool (inI a b c),[]) := by
 refine fun_s rfl cd108 rfl rfl rfl (by simp;rfl) (by simp;rfl) ?_
 refine wa_ (wc_region (w_ (a_ (h:=wo_nil (e_ (h:=aft_normal (wa_ (wc_region (w_ (m_ (h:=w_ (m_ (h:=w_ (b_ (h:=w_ (m_ (h:=?_)))))))))))))))))
 refine gw_ (h1:=?_) (h2:=?_)
 rotate_right 1
 focus
  intro c1
  refine go_ (h:=go_ (h:=go_ (h:=?_)))
 rotate_right 1
 focus
  intro c1
  refine g_ (h:=w_ (m_ (h:=g_ (h:=w_ (m_ (h:=g_ (h:=w_ (b_ (h:=?_)))))))))
 all_goals
  refine w_ (pk (h:=w_ (a_ (h:=wo_nil (e_ (h:=?_))))))
 all_goals first
 | (
  refine aft_normal ?_
  refine wc_ret (?_)
  )
 all_goals (refine fin_ (hr:=(res_tmp rfl res_nil)) (h:=?_);(focus (simp_all [inI] <;> omega)))
theorem e_size (sz : Nat) (l : List V) (h : l.length < 4611686018427387904) : oc.call 100 [.lst false sz l] = some (.int .i64 l.length,[]) := by
 refine fun_s rfl cd100 rfl rfl rfl (by simp;rfl) (by simp;rfl) ?_
 refine wa_ (wc_region (w_ (a_ (h:=wo_nil (e_ (h:=aft_normal (wa_ (wc_region (w_ (m_ (h:=w_ (le (h:=w_ (a_ (h:=wo_nil (e_ (h:=aft_normal (?_))))))))))))))))))
 refine wc_ret (?_)
 all_goals (refine fin_ (hr:=(res_tmp rfl res_nil)) (h:=?_);(focus (first | (simp_all;done) | (simp_all <;> omega) | (simp_all <;> split <;> simp_all <;> omega))))
theorem e_isWeight (a : Int) : oc.call 151 [.int .i64 a] = some (.bool (inI a (-1000000000000) 1000000000000),[]) := by
 refine fun_s rfl cd151 rfl rfl rfl (by simp;rfl) (by simp;rfl) ?_
 refine wa_ (wc_region (w_ (a_ (h:=wo_nil (e_ (h:=aft_normal (wa_ (wc_region (w_ (m_ (h:=w_ (ca (hc:=e_in _ _ _) (h:=w_ (a_ (h:=wo_nil (e_ (h:=aft_normal (?_))))))))))))))))))
 refine wc_ret (?_)
 all_goals (refine fin_ (hr:=(res_tmp rfl res_nil)) (h:=?_);(focus (first | (simp_all;done) | (simp_all <;> omega) | (simp_all <;> split <;> simp_all <;> omega))))
theorem e_l1Weight (a : Int) : oc.call 146 [.int .i64 a] = some (.bool (inI a (-1000000000000) 1000000000000),[]) := by
 refine fun_s rfl cd146 rfl rfl rfl (by simp;rfl) (by simp;rfl) ?_
 refine wa_ (wc_region (w_ (a_ (h:=wo_nil (e_ (h:=aft_normal (wa_ (wc_region (w_ (m_ (h:=w_ (ca (hc:=e_l1In _ _ _) (h:=w_ (a_ (h:=wo_nil (e_ (h:=aft_normal (?_))))))))))))))))))
 refine wc_ret (?_)
 all_goals (refine fin_ (hr:=(res_tmp rfl res_nil)) (h:=?_);(focus (first | (simp_all;done) | (simp_all <;> omega) | (simp_all <;> split <;> simp_all <;> omega))))
end Go.Proofs.Ytgkbmiaimjpbfaa.Ev
namespace Go.Proofs.Ytgkbmiaimjpbfaa.Ev
open Go
set_option maxRecDepth 100000
set_option linter.unusedSimpArgs false
set_option linter.unusedVariables false
set_option maxHeartbeats 2000000
def lz (t : Bool) (n : Nat) : Nat := match t with | true => n | false => 0
@[simp] theorem lz_t (n : Nat) : lz true n = n := rfl
@[simp] theorem lz_f (n : Nat) : lz false n = 0 := rfl
theorem lst_share (t : Bool) (s : Nat) (xs : List V) : (V.lst t s xs).share = .lst false 0 (V.shareL xs) := by cases t <;> rfl
theorem lst_mention (t : Bool) (s : Nat) (xs : List V) : (V.lst t s xs).mention = [] := by cases t <;> rfl
structure Ct where
  pl : Int
  ep : Int
  n : Int
  deriving DecidableEq
theorem Ct.eq_iff {d g : Ct} : d = g ↔ d.pl = g.pl ∧ d.ep = g.ep ∧ d.n = g.n := by
  cases d;cases g;simp
def Ct.v (x : Ct) : V := .agg [.int .i64 x.pl,.int .i64 x.ep,.int .i64 x.n]
def cts (l : List Ct) : List V := l.map (Ct.v)
@[simp] theorem cts_len (l : List Ct) : (cts l).length = l.length := by simp [cts]
@[simp] theorem cts_nil : cts [] = [] := rfl
@[simp] theorem cts_cons (x : Ct) (l : List Ct) : cts (x :: l) = x.v :: cts l := rfl
@[simp] theorem cts_join (l m : List Ct) : cts l ++ cts m = cts (l ++ m) := by simp [cts]
@[simp] theorem cts_snoc (l : List Ct) (x : Ct) : cts l ++ [x.v] = cts (l ++ [x]) := by simp [cts]
@[simp] theorem cts_snoc2 (l : List Ct) (a : Int) (b : Int) (c : Int) : cts l ++ [V.agg [.int .i64 a,.int .i64 b,.int .i64 c]] = cts (l ++ [⟨a,b,c⟩]) := by simp [cts,Ct.v]
@[simp] theorem cts_set2 (l : List Ct) (j : Nat) (a : Int) (b : Int) (c : Int) : (cts l).set j (V.agg [.int .i64 a,.int .i64 b,.int .i64 c]) = cts (l.set j ⟨a,b,c⟩) := by simp [cts,Ct.v,List.map_set]
@[simp] theorem cts_set (l : List Ct) (i : Nat) (x : Ct) : (cts l).set i (x.v) = cts (l.set i x) := by simp [cts,List.map_set]
@[simp] theorem cts_take (n : Nat) (l : List Ct) : (cts l).take n = cts (l.take n) := by simp [cts,List.map_take]
@[simp] theorem cts_drop (n : Nat) (l : List Ct) : (cts l).drop n = cts (l.drop n) := by simp [cts,List.map_drop]
@[simp] theorem Ct.cells_v (x : Ct) : (x.v).cells = 3 := rfl
@[simp] theorem Ct.mention (x : Ct) : V.mention (x.v) = [] := by simp [Ct.v,V.mention,V.mentionL,lst_mention]
@[simp] theorem Ct.share (x : Ct) : (x.v).share = x.v := by simp [Ct.v,V.share,V.shareL,lst_share]
@[simp] theorem cts_shareL (l : List Ct) : V.shareL (cts l) = cts l := by
  induction l with
  | nil => rfl
  | cons x l ih => simp [V.shareL,ih]
@[simp] theorem Ct.snap (x : Ct) (q : St) : V.snap q (x.v) = some (x.v) := by simp [Ct.v,V.snap,V.snapL,mp]
@[simp] theorem Ct.snapA (x : Ct) (q : St) : V.snapA q (x.v) = some (x.v) := Ct.snap x q
@[simp] theorem Ct.snapP (x : Ct) (q : St) : V.snapP q (x.v) = some (x.v) := Ct.snap x q
@[simp] theorem Ct.accM (x : Ct) : V.accM (x.v) = [] := by simp [Ct.v,V.accM,V.accML]
@[simp] theorem Ct.accF (x : Ct) : V.accF (x.v) = [] := by simp [Ct.v,V.accF,V.accFL]
@[simp] theorem Ct.ren (x : Ct) (ρ : Nat → Option Nat) (vr : Nat → Nat) : V.ren ρ vr (x.v) = x.v := by simp [Ct.v,V.ren,V.renL]
@[simp] theorem Ct.bA (i : Nat) (x : Ct) (r : List V) : bindArgs i (x.v :: r) = ((i,x.v) :: (bindArgs (i + 1) r).1,(bindArgs (i + 1) r).2) := rfl
@[simp] theorem Ct.lodF (x : Ct) (o i ver : Nat) (fs : List Nat) : V.lod o i ver fs (x.v) = x.v := by simp [Ct.v,V.lod,V.lodL]
@[simp] theorem Ct.fz (x : Ct) (s : St) : V.fz x.v s = some (x.v,s) := by simp [Ct.v,V.fz,V.fzL,mp]
@[simp] theorem Ct.fzI (x : Ct) (s : St) : V.fzI x.v s = some (x.v,s) := by simp [Ct.v,V.fz,V.fzI,V.fzIL,mp]
@[simp] theorem Ct.scal (x : Ct) : V.scal (x.v) = true := by simp [Ct.v,V.scal,V.scalL]
@[simp] theorem Ct.isTup (x : Ct) : (x.v).isTup = false := rfl
@[simp] theorem Ct.tidyT (x : Ct) : V.tidy (x.v) = true := by simp [Ct.v,V.tidy,V.tidyL]
@[simp] theorem cts_tidyT (l : List Ct) : V.tidyL (cts l) = true := by
  induction l with
  | nil => rfl
  | cons x l ih => simp [V.tidyL,ih]
@[simp] theorem Ct.thaw (x : Ct) (id : Nat) : V.thaw id x.v = (x.v,[],id) := by simp [Ct.v,V.thaw,V.thawL]
structure Et where
  row : List Int
  w : Int
  deriving DecidableEq
theorem Et.eq_iff {d g : Et} : d = g ↔ d.row = g.row ∧ d.w = g.w := by
  cases d;cases g;simp
def Et.v (t : Bool) (x : Et) : V := .agg [.lst t (lz t 1) (ints x.row),.int .i64 x.w]
def ets (t : Bool) (l : List Et) : List V := l.map (Et.v t)
@[simp] theorem ets_len (t : Bool) (l : List Et) : (ets t l).length = l.length := by simp [ets]
@[simp] theorem ets_nil (t : Bool) : ets t [] = [] := rfl
@[simp] theorem ets_cons (t : Bool) (x : Et) (l : List Et) : ets t (x :: l) = x.v t :: ets t l := rfl
@[simp] theorem ets_join (t : Bool) (l m : List Et) : ets t l ++ ets t m = ets t (l ++ m) := by simp [ets]
@[simp] theorem ets_snoc (t : Bool) (l : List Et) (x : Et) : ets t l ++ [x.v t] = ets t (l ++ [x]) := by simp [ets]
@[simp] theorem ets_snocT2 (l : List Et) (a : List Int) (b : Int) : ets true l ++ [V.agg [.lst true 1 (ints a),.int .i64 b]] = ets true (l ++ [⟨a,b⟩]) := by simp [ets,Et.v]
@[simp] theorem ets_setT2 (l : List Et) (j : Nat) (a : List Int) (b : Int) : (ets true l).set j (V.agg [.lst true 1 (ints a),.int .i64 b]) = ets true (l.set j ⟨a,b⟩) := by simp [ets,Et.v,List.map_set]
theorem ets_zero (m : Nat) : List.replicate m (V.agg [.lst true 1 [],.int .i64 0]) = ets true (List.replicate m ⟨[],0⟩) := by simp [ets,Et.v]
@[simp] theorem ets_snocF2 (l : List Et) (a : List Int) (b : Int) : ets false l ++ [V.agg [.lst false 0 (ints a),.int .i64 b]] = ets false (l ++ [⟨a,b⟩]) := by simp [ets,Et.v]
@[simp] theorem ets_setF2 (l : List Et) (j : Nat) (a : List Int) (b : Int) : (ets false l).set j (V.agg [.lst false 0 (ints a),.int .i64 b]) = ets false (l.set j ⟨a,b⟩) := by simp [ets,Et.v,List.map_set]
@[simp] theorem ets_set (t : Bool) (l : List Et) (i : Nat) (x : Et) : (ets t l).set i (x.v t) = ets t (l.set i x) := by simp [ets,List.map_set]
theorem ets_get {t : Bool} {l : List Et} {i : Nat} {x : Et} (h : l[i]? = some x) : (ets t l)[i]? = some (x.v t) := by simp [ets,h]
theorem ets_at {t : Bool} {l : List Et} {i : Nat} (h : i < l.length) : (ets t l)[(i : Int).toNat]? = some (l[i].v t) := ets_get (by simp [h])
theorem ets_cut {t : Bool} {l : List Et} {i : Nat} (h : i < l.length) : ∃ x,l[i]? = some x ∧ l.drop i = x :: l.drop (i + 1) ∧ (ets t l)[(i : Int).toNat]? = some (x.v t) :=
  ⟨l[i],by simp [h],List.drop_eq_getElem_cons h,ets_at h⟩
@[simp] theorem ets_take (t : Bool) (n : Nat) (l : List Et) : (ets t l).take n = ets t (l.take n) := by simp [ets,List.map_take]
@[simp] theorem ets_drop (t : Bool) (n : Nat) (l : List Et) : (ets t l).drop n = ets t (l.drop n) := by simp [ets,List.map_drop]
@[simp] theorem Et.cells_v (t : Bool) (x : Et) : (x.v t).cells = 2 := rfl
@[simp] theorem Et.mention (t : Bool) (x : Et) : V.mention (x.v t) = [] := by simp [Et.v,V.mention,V.mentionL,lst_mention]
@[simp] theorem Et.share (t : Bool) (x : Et) : (x.v t).share = x.v false := by simp [Et.v,V.share,V.shareL,lst_share,ints_share]
@[simp] theorem ets_shareL (t : Bool) (l : List Et) : V.shareL (ets t l) = ets false l := by
  induction l with
  | nil => rfl
  | cons x l ih => simp [V.shareL,ih]
@[simp] theorem Et.snap (t : Bool) (x : Et) (q : St) : V.snap q (x.v t) = some (x.v false) := by simp [Et.v,V.snap,V.snapL,mp,ints_share]
@[simp] theorem Et.snapA (t : Bool) (x : Et) (q : St) : V.snapA q (x.v t) = some (x.v false) := Et.snap t x q
@[simp] theorem Et.snapP (t : Bool) (x : Et) (q : St) : V.snapP q (x.v t) = some (x.v false) := Et.snap t x q
@[simp] theorem Et.accM (t : Bool) (x : Et) : V.accM (x.v t) = [] := by simp [Et.v,V.accM,V.accML]
@[simp] theorem Et.accF (t : Bool) (x : Et) : V.accF (x.v t) = [] := by simp [Et.v,V.accF,V.accFL]
@[simp] theorem Et.ren (t : Bool) (x : Et) (ρ : Nat → Option Nat) (vr : Nat → Nat) : V.ren ρ vr (x.v t) = x.v t := by simp [Et.v,V.ren,V.renL]
@[simp] theorem Et.bA (i : Nat) (t : Bool) (x : Et) (r : List V) : bindArgs i (x.v t :: r) = ((i,x.v t) :: (bindArgs (i + 1) r).1,(bindArgs (i + 1) r).2) := rfl
@[simp] theorem Et.lodF (x : Et) (o i ver : Nat) (fs : List Nat) : V.lod o i ver fs (x.v false) = x.v false := by simp [Et.v,V.lod,V.lodL]
@[simp] theorem Et.fzF (x : Et) (s : St) : V.fz (x.v false) s = some (x.v false,s) := by simp [Et.v,V.fz,V.fzL,mp]
@[simp] theorem Et.fzI (t : Bool) (x : Et) (s : St) : V.fzI (x.v t) s = some (x.v t,s) := by cases t <;> simp [Et.v,V.fz,V.fzI,V.fzIL,mp]
@[simp] theorem Et.scal (t : Bool) (x : Et) : V.scal (x.v t) = false := by simp [Et.v,V.scal,V.scalL]
@[simp] theorem Et.isTup (t : Bool) (x : Et) : (x.v t).isTup = false := rfl
@[simp] theorem Et.tidyT (x : Et) : V.tidy (x.v true) = true := by simp [Et.v,V.tidy,V.tidyL,ints_tidy]
@[simp] theorem ets_tidyT (l : List Et) : V.tidyL (ets true l) = true := by
  induction l with
  | nil => rfl
  | cons x l ih => simp [V.tidyL,ih]
@[simp] theorem Et.thawF (x : Et) (id : Nat) : V.thaw id (x.v false) = (x.v false,[],id) := by simp [Et.v,V.thaw,V.thawL]
@[simp] theorem Et.thawT (x : Et) (id : Nat) : V.thaw id (x.v true) = (.agg [.ref (id) 0 x.row.length,.int .i64 x.w],[(id,⟨false,false,1,ints x.row,0⟩)],id + 1) := by simp [Et.v,V.thaw,V.thawL]
structure Fr where
  kind : Int
  node : Int
  side : Int
  ep : Int
  set : List Et
  news : List Ct
  deriving DecidableEq
theorem Fr.eq_iff {d g : Fr} : d = g ↔ d.kind = g.kind ∧ d.node = g.node ∧ d.side = g.side ∧ d.ep = g.ep ∧ d.set = g.set ∧ d.news = g.news := by
  cases d;cases g;simp
def Fr.v (t : Bool) (x : Fr) : V := .agg [.int .i64 x.kind,.int .i64 x.node,.int .i64 x.side,.int .i64 x.ep,.lst t (lz t 2) (ets t x.set),.lst t (lz t 3) (cts x.news)]
def frs (t : Bool) (l : List Fr) : List V := l.map (Fr.v t)
@[simp] theorem frs_len (t : Bool) (l : List Fr) : (frs t l).length = l.length := by simp [frs]
@[simp] theorem frs_nil (t : Bool) : frs t [] = [] := rfl
@[simp] theorem frs_cons (t : Bool) (x : Fr) (l : List Fr) : frs t (x :: l) = x.v t :: frs t l := rfl
@[simp] theorem frs_join (t : Bool) (l m : List Fr) : frs t l ++ frs t m = frs t (l ++ m) := by simp [frs]
@[simp] theorem frs_snoc (t : Bool) (l : List Fr) (x : Fr) : frs t l ++ [x.v t] = frs t (l ++ [x]) := by simp [frs]
@[simp] theorem frs_snocT2 (l : List Fr) (a : Int) (b : Int) (c : Int) (d : Int) (e : List Et) (f : List Ct) : frs true l ++ [V.agg [.int .i64 a,.int .i64 b,.int .i64 c,.int .i64 d,.lst true 2 (ets true e),.lst true 3 (cts f)]] = frs true (l ++ [⟨a,b,c,d,e,f⟩]) := by simp [frs,Fr.v]
@[simp] theorem frs_setT2 (l : List Fr) (j : Nat) (a : Int) (b : Int) (c : Int) (d : Int) (e : List Et) (f : List Ct) : (frs true l).set j (V.agg [.int .i64 a,.int .i64 b,.int .i64 c,.int .i64 d,.lst true 2 (ets true e),.lst true 3 (cts f)]) = frs true (l.set j ⟨a,b,c,d,e,f⟩) := by simp [frs,Fr.v,List.map_set]
@[simp] theorem frs_snocF2 (l : List Fr) (a : Int) (b : Int) (c : Int) (d : Int) (e : List Et) (f : List Ct) : frs false l ++ [V.agg [.int .i64 a,.int .i64 b,.int .i64 c,.int .i64 d,.lst false 0 (ets false e),.lst false 0 (cts f)]] = frs false (l ++ [⟨a,b,c,d,e,f⟩]) := by simp [frs,Fr.v]
@[simp] theorem frs_setF2 (l : List Fr) (j : Nat) (a : Int) (b : Int) (c : Int) (d : Int) (e : List Et) (f : List Ct) : (frs false l).set j (V.agg [.int .i64 a,.int .i64 b,.int .i64 c,.int .i64 d,.lst false 0 (ets false e),.lst false 0 (cts f)]) = frs false (l.set j ⟨a,b,c,d,e,f⟩) := by simp [frs,Fr.v,List.map_set]
@[simp] theorem frs_set (t : Bool) (l : List Fr) (i : Nat) (x : Fr) : (frs t l).set i (x.v t) = frs t (l.set i x) := by simp [frs,List.map_set]
@[simp] theorem frs_take (t : Bool) (n : Nat) (l : List Fr) : (frs t l).take n = frs t (l.take n) := by simp [frs,List.map_take]
@[simp] theorem frs_drop (t : Bool) (n : Nat) (l : List Fr) : (frs t l).drop n = frs t (l.drop n) := by simp [frs,List.map_drop]
@[simp] theorem Fr.cells_v (t : Bool) (x : Fr) : (x.v t).cells = 6 := rfl
@[simp] theorem Fr.mention (t : Bool) (x : Fr) : V.mention (x.v t) = [] := by simp [Fr.v,V.mention,V.mentionL,lst_mention]
@[simp] theorem Fr.share (t : Bool) (x : Fr) : (x.v t).share = x.v false := by simp [Fr.v,V.share,V.shareL,lst_share,ets_shareL,cts_shareL]
@[simp] theorem frs_shareL (t : Bool) (l : List Fr) : V.shareL (frs t l) = frs false l := by
  induction l with
  | nil => rfl
  | cons x l ih => simp [V.shareL,ih]
@[simp] theorem Fr.snap (t : Bool) (x : Fr) (q : St) : V.snap q (x.v t) = some (x.v false) := by simp [Fr.v,V.snap,V.snapL,mp,ets_shareL,cts_shareL]
@[simp] theorem Fr.snapA (t : Bool) (x : Fr) (q : St) : V.snapA q (x.v t) = some (x.v false) := Fr.snap t x q
@[simp] theorem Fr.snapP (t : Bool) (x : Fr) (q : St) : V.snapP q (x.v t) = some (x.v false) := Fr.snap t x q
@[simp] theorem Fr.accM (t : Bool) (x : Fr) : V.accM (x.v t) = [] := by simp [Fr.v,V.accM,V.accML]
@[simp] theorem Fr.accF (t : Bool) (x : Fr) : V.accF (x.v t) = [] := by simp [Fr.v,V.accF,V.accFL]
@[simp] theorem Fr.ren (t : Bool) (x : Fr) (ρ : Nat → Option Nat) (vr : Nat → Nat) : V.ren ρ vr (x.v t) = x.v t := by simp [Fr.v,V.ren,V.renL]
@[simp] theorem Fr.bA (i : Nat) (t : Bool) (x : Fr) (r : List V) : bindArgs i (x.v t :: r) = ((i,x.v t) :: (bindArgs (i + 1) r).1,(bindArgs (i + 1) r).2) := rfl
@[simp] theorem Fr.lodF (x : Fr) (o i ver : Nat) (fs : List Nat) : V.lod o i ver fs (x.v false) = x.v false := by simp [Fr.v,V.lod,V.lodL]
@[simp] theorem Fr.fzF (x : Fr) (s : St) : V.fz (x.v false) s = some (x.v false,s) := by simp [Fr.v,V.fz,V.fzL,mp]
@[simp] theorem Fr.fzI (t : Bool) (x : Fr) (s : St) : V.fzI (x.v t) s = some (x.v t,s) := by cases t <;> simp [Fr.v,V.fz,V.fzI,V.fzIL,mp]
@[simp] theorem Fr.scal (t : Bool) (x : Fr) : V.scal (x.v t) = false := by simp [Fr.v,V.scal,V.scalL]
@[simp] theorem Fr.isTup (t : Bool) (x : Fr) : (x.v t).isTup = false := rfl
@[simp] theorem Fr.tidyT (x : Fr) : V.tidy (x.v true) = true := by simp [Fr.v,V.tidy,V.tidyL,ets_tidyT,cts_tidyT]
@[simp] theorem frs_tidyT (l : List Fr) : V.tidyL (frs true l) = true := by
  induction l with
  | nil => rfl
  | cons x l ih => simp [V.tidyL,ih]
@[simp] theorem Fr.thawF (x : Fr) (id : Nat) : V.thaw id (x.v false) = (x.v false,[],id) := by simp [Fr.v,V.thaw,V.thawL]
@[simp] theorem Fr.thawT (x : Fr) (id : Nat) : V.thaw id (x.v true) = (.agg [.int .i64 x.kind,.int .i64 x.node,.int .i64 x.side,.int .i64 x.ep,.ref (id) 0 x.set.length,.ref (id + 1) 0 x.news.length],[(id,⟨false,false,2,ets true x.set,0⟩),(id + 1,⟨false,false,3,cts x.news,0⟩)],id + 1 + 1) := by simp [Fr.v,V.thaw,V.thawL]
structure Bt where
  side : Int
  ep : Int
  set : List Et
  deriving DecidableEq
theorem Bt.eq_iff {d g : Bt} : d = g ↔ d.side = g.side ∧ d.ep = g.ep ∧ d.set = g.set := by
  cases d;cases g;simp
def Bt.v (t : Bool) (x : Bt) : V := .agg [.int .i64 x.side,.int .i64 x.ep,.lst t (lz t 2) (ets t x.set)]
def bts (t : Bool) (l : List Bt) : List V := l.map (Bt.v t)
@[simp] theorem bts_len (t : Bool) (l : List Bt) : (bts t l).length = l.length := by simp [bts]
@[simp] theorem bts_nil (t : Bool) : bts t [] = [] := rfl
@[simp] theorem bts_cons (t : Bool) (x : Bt) (l : List Bt) : bts t (x :: l) = x.v t :: bts t l := rfl
@[simp] theorem bts_join (t : Bool) (l m : List Bt) : bts t l ++ bts t m = bts t (l ++ m) := by simp [bts]
@[simp] theorem bts_snoc (t : Bool) (l : List Bt) (x : Bt) : bts t l ++ [x.v t] = bts t (l ++ [x]) := by simp [bts]
@[simp] theorem bts_snocT2 (l : List Bt) (a : Int) (b : Int) (c : List Et) : bts true l ++ [V.agg [.int .i64 a,.int .i64 b,.lst true 2 (ets true c)]] = bts true (l ++ [⟨a,b,c⟩]) := by simp [bts,Bt.v]
@[simp] theorem bts_setT2 (l : List Bt) (j : Nat) (a : Int) (b : Int) (c : List Et) : (bts true l).set j (V.agg [.int .i64 a,.int .i64 b,.lst true 2 (ets true c)]) = bts true (l.set j ⟨a,b,c⟩) := by simp [bts,Bt.v,List.map_set]
@[simp] theorem bts_snocF2 (l : List Bt) (a : Int) (b : Int) (c : List Et) : bts false l ++ [V.agg [.int .i64 a,.int .i64 b,.lst false 0 (ets false c)]] = bts false (l ++ [⟨a,b,c⟩]) := by simp [bts,Bt.v]
@[simp] theorem bts_setF2 (l : List Bt) (j : Nat) (a : Int) (b : Int) (c : List Et) : (bts false l).set j (V.agg [.int .i64 a,.int .i64 b,.lst false 0 (ets false c)]) = bts false (l.set j ⟨a,b,c⟩) := by simp [bts,Bt.v,List.map_set]
@[simp] theorem bts_set (t : Bool) (l : List Bt) (i : Nat) (x : Bt) : (bts t l).set i (x.v t) = bts t (l.set i x) := by simp [bts,List.map_set]
@[simp] theorem bts_take (t : Bool) (n : Nat) (l : List Bt) : (bts t l).take n = bts t (l.take n) := by simp [bts,List.map_take]
@[simp] theorem bts_drop (t : Bool) (n : Nat) (l : List Bt) : (bts t l).drop n = bts t (l.drop n) := by simp [bts,List.map_drop]
@[simp] theorem Bt.cells_v (t : Bool) (x : Bt) : (x.v t).cells = 3 := rfl
@[simp] theorem Bt.mention (t : Bool) (x : Bt) : V.mention (x.v t) = [] := by simp [Bt.v,V.mention,V.mentionL,lst_mention]
@[simp] theorem Bt.share (t : Bool) (x : Bt) : (x.v t).share = x.v false := by simp [Bt.v,V.share,V.shareL,lst_share,ets_shareL]
@[simp] theorem bts_shareL (t : Bool) (l : List Bt) : V.shareL (bts t l) = bts false l := by
  induction l with
  | nil => rfl
  | cons x l ih => simp [V.shareL,ih]
@[simp] theorem Bt.snap (t : Bool) (x : Bt) (q : St) : V.snap q (x.v t) = some (x.v false) := by simp [Bt.v,V.snap,V.snapL,mp,ets_shareL]
@[simp] theorem Bt.snapA (t : Bool) (x : Bt) (q : St) : V.snapA q (x.v t) = some (x.v false) := Bt.snap t x q
@[simp] theorem Bt.snapP (t : Bool) (x : Bt) (q : St) : V.snapP q (x.v t) = some (x.v false) := Bt.snap t x q
@[simp] theorem Bt.accM (t : Bool) (x : Bt) : V.accM (x.v t) = [] := by simp [Bt.v,V.accM,V.accML]
@[simp] theorem Bt.accF (t : Bool) (x : Bt) : V.accF (x.v t) = [] := by simp [Bt.v,V.accF,V.accFL]
@[simp] theorem Bt.ren (t : Bool) (x : Bt) (ρ : Nat → Option Nat) (vr : Nat → Nat) : V.ren ρ vr (x.v t) = x.v t := by simp [Bt.v,V.ren,V.renL]
@[simp] theorem Bt.bA (i : Nat) (t : Bool) (x : Bt) (r : List V) : bindArgs i (x.v t :: r) = ((i,x.v t) :: (bindArgs (i + 1) r).1,(bindArgs (i + 1) r).2) := rfl
@[simp] theorem Bt.lodF (x : Bt) (o i ver : Nat) (fs : List Nat) : V.lod o i ver fs (x.v false) = x.v false := by simp [Bt.v,V.lod,V.lodL]
@[simp] theorem Bt.fzF (x : Bt) (s : St) : V.fz (x.v false) s = some (x.v false,s) := by simp [Bt.v,V.fz,V.fzL,mp]
@[simp] theorem Bt.fzI (t : Bool) (x : Bt) (s : St) : V.fzI (x.v t) s = some (x.v t,s) := by cases t <;> simp [Bt.v,V.fz,V.fzI,V.fzIL,mp]
@[simp] theorem Bt.scal (t : Bool) (x : Bt) : V.scal (x.v t) = false := by simp [Bt.v,V.scal,V.scalL]
@[simp] theorem Bt.isTup (t : Bool) (x : Bt) : (x.v t).isTup = false := rfl
@[simp] theorem Bt.tidyT (x : Bt) : V.tidy (x.v true) = true := by simp [Bt.v,V.tidy,V.tidyL,ets_tidyT]
@[simp] theorem bts_tidyT (l : List Bt) : V.tidyL (bts true l) = true := by
  induction l with
  | nil => rfl
  | cons x l ih => simp [V.tidyL,ih]
@[simp] theorem Bt.thawF (x : Bt) (id : Nat) : V.thaw id (x.v false) = (x.v false,[],id) := by simp [Bt.v,V.thaw,V.thawL]
@[simp] theorem Bt.thawT (x : Bt) (id : Nat) : V.thaw id (x.v true) = (.agg [.int .i64 x.side,.int .i64 x.ep,.ref (id) 0 x.set.length],[(id,⟨false,false,2,ets true x.set,0⟩)],id + 1) := by simp [Bt.v,V.thaw,V.thawL]
structure Hd where
  oldA : List Et
  oldB : List Et
  waits : List Bt
  told : Int
  deriving DecidableEq
theorem Hd.eq_iff {d g : Hd} : d = g ↔ d.oldA = g.oldA ∧ d.oldB = g.oldB ∧ d.waits = g.waits ∧ d.told = g.told := by
  cases d;cases g;simp
def Hd.v (t : Bool) (x : Hd) : V := .agg [.lst t (lz t 2) (ets t x.oldA),.lst t (lz t 2) (ets t x.oldB),.lst t (lz t 3) (bts t x.waits),.int .i64 x.told]
def hds (t : Bool) (l : List Hd) : List V := l.map (Hd.v t)
@[simp] theorem hds_len (t : Bool) (l : List Hd) : (hds t l).length = l.length := by simp [hds]
@[simp] theorem hds_nil (t : Bool) : hds t [] = [] := rfl
@[simp] theorem hds_cons (t : Bool) (x : Hd) (l : List Hd) : hds t (x :: l) = x.v t :: hds t l := rfl
@[simp] theorem hds_join (t : Bool) (l m : List Hd) : hds t l ++ hds t m = hds t (l ++ m) := by simp [hds]
@[simp] theorem hds_snoc (t : Bool) (l : List Hd) (x : Hd) : hds t l ++ [x.v t] = hds t (l ++ [x]) := by simp [hds]
@[simp] theorem hds_snocT2 (l : List Hd) (a : List Et) (b : List Et) (c : List Bt) (d : Int) : hds true l ++ [V.agg [.lst true 2 (ets true a),.lst true 2 (ets true b),.lst true 3 (bts true c),.int .i64 d]] = hds true (l ++ [⟨a,b,c,d⟩]) := by simp [hds,Hd.v]
@[simp] theorem hds_setT2 (l : List Hd) (j : Nat) (a : List Et) (b : List Et) (c : List Bt) (d : Int) : (hds true l).set j (V.agg [.lst true 2 (ets true a),.lst true 2 (ets true b),.lst true 3 (bts true c),.int .i64 d]) = hds true (l.set j ⟨a,b,c,d⟩) := by simp [hds,Hd.v,List.map_set]
@[simp] theorem hds_snocF2 (l : List Hd) (a : List Et) (b : List Et) (c : List Bt) (d : Int) : hds false l ++ [V.agg [.lst false 0 (ets false a),.lst false 0 (ets false b),.lst false 0 (bts false c),.int .i64 d]] = hds false (l ++ [⟨a,b,c,d⟩]) := by simp [hds,Hd.v]
@[simp] theorem hds_setF2 (l : List Hd) (j : Nat) (a : List Et) (b : List Et) (c : List Bt) (d : Int) : (hds false l).set j (V.agg [.lst false 0 (ets false a),.lst false 0 (ets false b),.lst false 0 (bts false c),.int .i64 d]) = hds false (l.set j ⟨a,b,c,d⟩) := by simp [hds,Hd.v,List.map_set]
@[simp] theorem hds_set (t : Bool) (l : List Hd) (i : Nat) (x : Hd) : (hds t l).set i (x.v t) = hds t (l.set i x) := by simp [hds,List.map_set]
@[simp] theorem hds_take (t : Bool) (n : Nat) (l : List Hd) : (hds t l).take n = hds t (l.take n) := by simp [hds,List.map_take]
@[simp] theorem hds_drop (t : Bool) (n : Nat) (l : List Hd) : (hds t l).drop n = hds t (l.drop n) := by simp [hds,List.map_drop]
@[simp] theorem Hd.cells_v (t : Bool) (x : Hd) : (x.v t).cells = 4 := rfl
@[simp] theorem Hd.mention (t : Bool) (x : Hd) : V.mention (x.v t) = [] := by simp [Hd.v,V.mention,V.mentionL,lst_mention]
@[simp] theorem Hd.share (t : Bool) (x : Hd) : (x.v t).share = x.v false := by simp [Hd.v,V.share,V.shareL,lst_share,ets_shareL,ets_shareL,bts_shareL]
@[simp] theorem hds_shareL (t : Bool) (l : List Hd) : V.shareL (hds t l) = hds false l := by
  induction l with
  | nil => rfl
  | cons x l ih => simp [V.shareL,ih]
@[simp] theorem Hd.snap (t : Bool) (x : Hd) (q : St) : V.snap q (x.v t) = some (x.v false) := by simp [Hd.v,V.snap,V.snapL,mp,ets_shareL,ets_shareL,bts_shareL]
@[simp] theorem Hd.snapA (t : Bool) (x : Hd) (q : St) : V.snapA q (x.v t) = some (x.v false) := Hd.snap t x q
@[simp] theorem Hd.snapP (t : Bool) (x : Hd) (q : St) : V.snapP q (x.v t) = some (x.v false) := Hd.snap t x q
@[simp] theorem Hd.accM (t : Bool) (x : Hd) : V.accM (x.v t) = [] := by simp [Hd.v,V.accM,V.accML]
@[simp] theorem Hd.accF (t : Bool) (x : Hd) : V.accF (x.v t) = [] := by simp [Hd.v,V.accF,V.accFL]
@[simp] theorem Hd.ren (t : Bool) (x : Hd) (ρ : Nat → Option Nat) (vr : Nat → Nat) : V.ren ρ vr (x.v t) = x.v t := by simp [Hd.v,V.ren,V.renL]
@[simp] theorem Hd.bA (i : Nat) (t : Bool) (x : Hd) (r : List V) : bindArgs i (x.v t :: r) = ((i,x.v t) :: (bindArgs (i + 1) r).1,(bindArgs (i + 1) r).2) := rfl
@[simp] theorem Hd.lodF (x : Hd) (o i ver : Nat) (fs : List Nat) : V.lod o i ver fs (x.v false) = x.v false := by simp [Hd.v,V.lod,V.lodL]
@[simp] theorem Hd.fzF (x : Hd) (s : St) : V.fz (x.v false) s = some (x.v false,s) := by simp [Hd.v,V.fz,V.fzL,mp]
@[simp] theorem Hd.fzI (t : Bool) (x : Hd) (s : St) : V.fzI (x.v t) s = some (x.v t,s) := by cases t <;> simp [Hd.v,V.fz,V.fzI,V.fzIL,mp]
@[simp] theorem Hd.scal (t : Bool) (x : Hd) : V.scal (x.v t) = false := by simp [Hd.v,V.scal,V.scalL]
@[simp] theorem Hd.isTup (t : Bool) (x : Hd) : (x.v t).isTup = false := rfl
@[simp] theorem Hd.tidyT (x : Hd) : V.tidy (x.v true) = true := by simp [Hd.v,V.tidy,V.tidyL,ets_tidyT,ets_tidyT,bts_tidyT]
@[simp] theorem hds_tidyT (l : List Hd) : V.tidyL (hds true l) = true := by
  induction l with
  | nil => rfl
  | cons x l ih => simp [V.tidyL,ih]
@[simp] theorem Hd.thawF (x : Hd) (id : Nat) : V.thaw id (x.v false) = (x.v false,[],id) := by simp [Hd.v,V.thaw,V.thawL]
@[simp] theorem Hd.thawT (x : Hd) (id : Nat) : V.thaw id (x.v true) = (.agg [.ref (id) 0 x.oldA.length,.ref (id + 1) 0 x.oldB.length,.ref (id + 1 + 1) 0 x.waits.length,.int .i64 x.told],[(id,⟨false,false,2,ets true x.oldA,0⟩),(id + 1,⟨false,false,2,ets true x.oldB,0⟩),(id + 1 + 1,⟨false,false,3,bts true x.waits,0⟩)],id + 1 + 1 + 1) := by simp [Hd.v,V.thaw,V.thawL]
structure Rl where
  node : Int
  ep : Int
  set : List Et
  deriving DecidableEq
theorem Rl.eq_iff {d g : Rl} : d = g ↔ d.node = g.node ∧ d.ep = g.ep ∧ d.set = g.set := by
  cases d;cases g;simp
def Rl.v (t : Bool) (x : Rl) : V := .agg [.int .i64 x.node,.int .i64 x.ep,.lst t (lz t 2) (ets t x.set)]
def rls (t : Bool) (l : List Rl) : List V := l.map (Rl.v t)
@[simp] theorem rls_len (t : Bool) (l : List Rl) : (rls t l).length = l.length := by simp [rls]
@[simp] theorem rls_nil (t : Bool) : rls t [] = [] := rfl
@[simp] theorem rls_cons (t : Bool) (x : Rl) (l : List Rl) : rls t (x :: l) = x.v t :: rls t l := rfl
@[simp] theorem rls_join (t : Bool) (l m : List Rl) : rls t l ++ rls t m = rls t (l ++ m) := by simp [rls]
@[simp] theorem rls_snoc (t : Bool) (l : List Rl) (x : Rl) : rls t l ++ [x.v t] = rls t (l ++ [x]) := by simp [rls]
@[simp] theorem rls_snocT2 (l : List Rl) (a : Int) (b : Int) (c : List Et) : rls true l ++ [V.agg [.int .i64 a,.int .i64 b,.lst true 2 (ets true c)]] = rls true (l ++ [⟨a,b,c⟩]) := by simp [rls,Rl.v]
@[simp] theorem rls_setT2 (l : List Rl) (j : Nat) (a : Int) (b : Int) (c : List Et) : (rls true l).set j (V.agg [.int .i64 a,.int .i64 b,.lst true 2 (ets true c)]) = rls true (l.set j ⟨a,b,c⟩) := by simp [rls,Rl.v,List.map_set]
@[simp] theorem rls_snocF2 (l : List Rl) (a : Int) (b : Int) (c : List Et) : rls false l ++ [V.agg [.int .i64 a,.int .i64 b,.lst false 0 (ets false c)]] = rls false (l ++ [⟨a,b,c⟩]) := by simp [rls,Rl.v]
@[simp] theorem rls_setF2 (l : List Rl) (j : Nat) (a : Int) (b : Int) (c : List Et) : (rls false l).set j (V.agg [.int .i64 a,.int .i64 b,.lst false 0 (ets false c)]) = rls false (l.set j ⟨a,b,c⟩) := by simp [rls,Rl.v,List.map_set]
@[simp] theorem rls_set (t : Bool) (l : List Rl) (i : Nat) (x : Rl) : (rls t l).set i (x.v t) = rls t (l.set i x) := by simp [rls,List.map_set]
@[simp] theorem rls_take (t : Bool) (n : Nat) (l : List Rl) : (rls t l).take n = rls t (l.take n) := by simp [rls,List.map_take]
@[simp] theorem rls_drop (t : Bool) (n : Nat) (l : List Rl) : (rls t l).drop n = rls t (l.drop n) := by simp [rls,List.map_drop]
@[simp] theorem Rl.cells_v (t : Bool) (x : Rl) : (x.v t).cells = 3 := rfl
@[simp] theorem Rl.mention (t : Bool) (x : Rl) : V.mention (x.v t) = [] := by simp [Rl.v,V.mention,V.mentionL,lst_mention]
@[simp] theorem Rl.share (t : Bool) (x : Rl) : (x.v t).share = x.v false := by simp [Rl.v,V.share,V.shareL,lst_share,ets_shareL]
@[simp] theorem rls_shareL (t : Bool) (l : List Rl) : V.shareL (rls t l) = rls false l := by
  induction l with
  | nil => rfl
  | cons x l ih => simp [V.shareL,ih]
@[simp] theorem Rl.snap (t : Bool) (x : Rl) (q : St) : V.snap q (x.v t) = some (x.v false) := by simp [Rl.v,V.snap,V.snapL,mp,ets_shareL]
@[simp] theorem Rl.snapA (t : Bool) (x : Rl) (q : St) : V.snapA q (x.v t) = some (x.v false) := Rl.snap t x q
@[simp] theorem Rl.snapP (t : Bool) (x : Rl) (q : St) : V.snapP q (x.v t) = some (x.v false) := Rl.snap t x q
@[simp] theorem Rl.accM (t : Bool) (x : Rl) : V.accM (x.v t) = [] := by simp [Rl.v,V.accM,V.accML]
@[simp] theorem Rl.accF (t : Bool) (x : Rl) : V.accF (x.v t) = [] := by simp [Rl.v,V.accF,V.accFL]
@[simp] theorem Rl.ren (t : Bool) (x : Rl) (ρ : Nat → Option Nat) (vr : Nat → Nat) : V.ren ρ vr (x.v t) = x.v t := by simp [Rl.v,V.ren,V.renL]
@[simp] theorem Rl.bA (i : Nat) (t : Bool) (x : Rl) (r : List V) : bindArgs i (x.v t :: r) = ((i,x.v t) :: (bindArgs (i + 1) r).1,(bindArgs (i + 1) r).2) := rfl
@[simp] theorem Rl.lodF (x : Rl) (o i ver : Nat) (fs : List Nat) : V.lod o i ver fs (x.v false) = x.v false := by simp [Rl.v,V.lod,V.lodL]
@[simp] theorem Rl.fzF (x : Rl) (s : St) : V.fz (x.v false) s = some (x.v false,s) := by simp [Rl.v,V.fz,V.fzL,mp]
@[simp] theorem Rl.fzI (t : Bool) (x : Rl) (s : St) : V.fzI (x.v t) s = some (x.v t,s) := by cases t <;> simp [Rl.v,V.fz,V.fzI,V.fzIL,mp]
@[simp] theorem Rl.scal (t : Bool) (x : Rl) : V.scal (x.v t) = false := by simp [Rl.v,V.scal,V.scalL]
@[simp] theorem Rl.isTup (t : Bool) (x : Rl) : (x.v t).isTup = false := rfl
@[simp] theorem Rl.tidyT (x : Rl) : V.tidy (x.v true) = true := by simp [Rl.v,V.tidy,V.tidyL,ets_tidyT]
@[simp] theorem rls_tidyT (l : List Rl) : V.tidyL (rls true l) = true := by
  induction l with
  | nil => rfl
  | cons x l ih => simp [V.tidyL,ih]
@[simp] theorem Rl.thawF (x : Rl) (id : Nat) : V.thaw id (x.v false) = (x.v false,[],id) := by simp [Rl.v,V.thaw,V.thawL]
@[simp] theorem Rl.thawT (x : Rl) (id : Nat) : V.thaw id (x.v true) = (.agg [.int .i64 x.node,.int .i64 x.ep,.ref (id) 0 x.set.length],[(id,⟨false,false,2,ets true x.set,0⟩)],id + 1) := by simp [Rl.v,V.thaw,V.thawL]
structure Wk where
  inbox : List Fr
  counts : List Ct
  nodes : List Hd
  ep : Int
  top : Int
  outs : List Rl
  bad : Bool
  deriving DecidableEq
theorem Wk.eq_iff {d g : Wk} : d = g ↔ d.inbox = g.inbox ∧ d.counts = g.counts ∧ d.nodes = g.nodes ∧ d.ep = g.ep ∧ d.top = g.top ∧ d.outs = g.outs ∧ d.bad = g.bad := by
  cases d;cases g;simp
def Wk.v (t : Bool) (x : Wk) : V := .agg [.lst t (lz t 6) (frs t x.inbox),.lst t (lz t 3) (cts x.counts),.lst t (lz t 4) (hds t x.nodes),.int .i64 x.ep,.int .i64 x.top,.lst t (lz t 3) (rls t x.outs),.bool x.bad]
def wks (t : Bool) (l : List Wk) : List V := l.map (Wk.v t)
@[simp] theorem wks_len (t : Bool) (l : List Wk) : (wks t l).length = l.length := by simp [wks]
@[simp] theorem wks_nil (t : Bool) : wks t [] = [] := rfl
@[simp] theorem wks_cons (t : Bool) (x : Wk) (l : List Wk) : wks t (x :: l) = x.v t :: wks t l := rfl
@[simp] theorem wks_join (t : Bool) (l m : List Wk) : wks t l ++ wks t m = wks t (l ++ m) := by simp [wks]
@[simp] theorem wks_snoc (t : Bool) (l : List Wk) (x : Wk) : wks t l ++ [x.v t] = wks t (l ++ [x]) := by simp [wks]
@[simp] theorem wks_snocT2 (l : List Wk) (a : List Fr) (b : List Ct) (c : List Hd) (d : Int) (e : Int) (f : List Rl) (g : Bool) : wks true l ++ [V.agg [.lst true 6 (frs true a),.lst true 3 (cts b),.lst true 4 (hds true c),.int .i64 d,.int .i64 e,.lst true 3 (rls true f),.bool g]] = wks true (l ++ [⟨a,b,c,d,e,f,g⟩]) := by simp [wks,Wk.v]
@[simp] theorem wks_setT2 (l : List Wk) (j : Nat) (a : List Fr) (b : List Ct) (c : List Hd) (d : Int) (e : Int) (f : List Rl) (g : Bool) : (wks true l).set j (V.agg [.lst true 6 (frs true a),.lst true 3 (cts b),.lst true 4 (hds true c),.int .i64 d,.int .i64 e,.lst true 3 (rls true f),.bool g]) = wks true (l.set j ⟨a,b,c,d,e,f,g⟩) := by simp [wks,Wk.v,List.map_set]
@[simp] theorem wks_snocF2 (l : List Wk) (a : List Fr) (b : List Ct) (c : List Hd) (d : Int) (e : Int) (f : List Rl) (g : Bool) : wks false l ++ [V.agg [.lst false 0 (frs false a),.lst false 0 (cts b),.lst false 0 (hds false c),.int .i64 d,.int .i64 e,.lst false 0 (rls false f),.bool g]] = wks false (l ++ [⟨a,b,c,d,e,f,g⟩]) := by simp [wks,Wk.v]
@[simp] theorem wks_setF2 (l : List Wk) (j : Nat) (a : List Fr) (b : List Ct) (c : List Hd) (d : Int) (e : Int) (f : List Rl) (g : Bool) : (wks false l).set j (V.agg [.lst false 0 (frs false a),.lst false 0 (cts b),.lst false 0 (hds false c),.int .i64 d,.int .i64 e,.lst false 0 (rls false f),.bool g]) = wks false (l.set j ⟨a,b,c,d,e,f,g⟩) := by simp [wks,Wk.v,List.map_set]
@[simp] theorem wks_set (t : Bool) (l : List Wk) (i : Nat) (x : Wk) : (wks t l).set i (x.v t) = wks t (l.set i x) := by simp [wks,List.map_set]
@[simp] theorem wks_take (t : Bool) (n : Nat) (l : List Wk) : (wks t l).take n = wks t (l.take n) := by simp [wks,List.map_take]
@[simp] theorem wks_drop (t : Bool) (n : Nat) (l : List Wk) : (wks t l).drop n = wks t (l.drop n) := by simp [wks,List.map_drop]
@[simp] theorem Wk.cells_v (t : Bool) (x : Wk) : (x.v t).cells = 7 := rfl
@[simp] theorem Wk.mention (t : Bool) (x : Wk) : V.mention (x.v t) = [] := by simp [Wk.v,V.mention,V.mentionL,lst_mention]
@[simp] theorem Wk.share (t : Bool) (x : Wk) : (x.v t).share = x.v false := by simp [Wk.v,V.share,V.shareL,lst_share,frs_shareL,cts_shareL,hds_shareL,rls_shareL]
@[simp] theorem wks_shareL (t : Bool) (l : List Wk) : V.shareL (wks t l) = wks false l := by
  induction l with
  | nil => rfl
  | cons x l ih => simp [V.shareL,ih]
@[simp] theorem Wk.snap (t : Bool) (x : Wk) (q : St) : V.snap q (x.v t) = some (x.v false) := by simp [Wk.v,V.snap,V.snapL,mp,frs_shareL,cts_shareL,hds_shareL,rls_shareL]
@[simp] theorem Wk.snapA (t : Bool) (x : Wk) (q : St) : V.snapA q (x.v t) = some (x.v false) := Wk.snap t x q
@[simp] theorem Wk.snapP (t : Bool) (x : Wk) (q : St) : V.snapP q (x.v t) = some (x.v false) := Wk.snap t x q
@[simp] theorem Wk.accM (t : Bool) (x : Wk) : V.accM (x.v t) = [] := by simp [Wk.v,V.accM,V.accML]
@[simp] theorem Wk.accF (t : Bool) (x : Wk) : V.accF (x.v t) = [] := by simp [Wk.v,V.accF,V.accFL]
@[simp] theorem Wk.ren (t : Bool) (x : Wk) (ρ : Nat → Option Nat) (vr : Nat → Nat) : V.ren ρ vr (x.v t) = x.v t := by simp [Wk.v,V.ren,V.renL]
@[simp] theorem Wk.bA (i : Nat) (t : Bool) (x : Wk) (r : List V) : bindArgs i (x.v t :: r) = ((i,x.v t) :: (bindArgs (i + 1) r).1,(bindArgs (i + 1) r).2) := rfl
@[simp] theorem Wk.lodF (x : Wk) (o i ver : Nat) (fs : List Nat) : V.lod o i ver fs (x.v false) = x.v false := by simp [Wk.v,V.lod,V.lodL]
@[simp] theorem Wk.fzF (x : Wk) (s : St) : V.fz (x.v false) s = some (x.v false,s) := by simp [Wk.v,V.fz,V.fzL,mp]
@[simp] theorem Wk.fzI (t : Bool) (x : Wk) (s : St) : V.fzI (x.v t) s = some (x.v t,s) := by cases t <;> simp [Wk.v,V.fz,V.fzI,V.fzIL,mp]
@[simp] theorem Wk.scal (t : Bool) (x : Wk) : V.scal (x.v t) = false := by simp [Wk.v,V.scal,V.scalL]
@[simp] theorem Wk.isTup (t : Bool) (x : Wk) : (x.v t).isTup = false := rfl
@[simp] theorem Wk.tidyT (x : Wk) : V.tidy (x.v true) = true := by simp [Wk.v,V.tidy,V.tidyL,frs_tidyT,cts_tidyT,hds_tidyT,rls_tidyT]
@[simp] theorem wks_tidyT (l : List Wk) : V.tidyL (wks true l) = true := by
  induction l with
  | nil => rfl
  | cons x l ih => simp [V.tidyL,ih]
@[simp] theorem Wk.thawF (x : Wk) (id : Nat) : V.thaw id (x.v false) = (x.v false,[],id) := by simp [Wk.v,V.thaw,V.thawL]
@[simp] theorem Wk.thawT (x : Wk) (id : Nat) : V.thaw id (x.v true) = (.agg [.ref (id) 0 x.inbox.length,.ref (id + 1) 0 x.counts.length,.ref (id + 1 + 1) 0 x.nodes.length,.int .i64 x.ep,.int .i64 x.top,.ref (id + 1 + 1 + 1) 0 x.outs.length,.bool x.bad],[(id,⟨false,false,6,frs true x.inbox,0⟩),(id + 1,⟨false,false,3,cts x.counts,0⟩),(id + 1 + 1,⟨false,false,4,hds true x.nodes,0⟩),(id + 1 + 1 + 1,⟨false,false,3,rls true x.outs,0⟩)],id + 1 + 1 + 1 + 1) := by simp [Wk.v,V.thaw,V.thawL]
def wS {α : Type} (f : α → Nat) (l : List α) : Nat := (l.map f).sum
@[simp] theorem wS_nil {α : Type} (f : α → Nat) : wS f [] = 0 := rfl
@[simp] theorem wS_cons {α : Type} (f : α → Nat) (x : α) (l : List α) : wS f (x :: l) = f x + wS f l := by simp [wS]
theorem wS_mem {α : Type} {f : α → Nat} : ∀ {l : List α} {x : α},x ∈ l → f x ≤ wS f l
  | y :: l,x,h => by
    rcases List.mem_cons.1 h with rfl | h
    · simp
    · have := wS_mem (f:=f) h;simp;omega
def w_Et (x : Et) : Nat := x.row.length
def w_Ets (l : List Et) : Nat := l.length + wS w_Et l
theorem w_Ets_mem {l : List Et} {x : Et} (h : x ∈ l) : l.length + w_Et x ≤ w_Ets l := by
  have := wS_mem (f:=w_Et) h;unfold w_Ets;omega
theorem w_Ets_len {l : List Et} : l.length ≤ w_Ets l := by unfold w_Ets;omega
end Go.Proofs.Ytgkbmiaimjpbfaa.Ev
namespace Go.Proofs.Ytgkbmiaimjpbfaa.Ev
open Go
set_option maxRecDepth 100000
set_option linter.unusedSimpArgs false
set_option linter.unusedVariables false
set_option maxHeartbeats 2000000
theorem oc_ok : CallOK Try.prog oc.call := by
  unfold oc
  exact or_sound (by kernel_rfl) tb
theorem l_eqG (a b : List Int) (z z' : Nat) (ha : a.length < 4000000000) (hab : a.length = b.length) : ∀ i : Nat,i ≤ a.length → ∀ s,normE 2 (some [0,1,12,13]) s = ⟨[(0,.lst false z (ints a)),(1,.lst false z' (ints b)),(12,.int .i64 a.length),(13,.int .i64 i)],[],2⟩ →
 oc.loop 186 4 s = some (if a.drop i = b.drop i then (.exit 0,⟨[],[],2⟩) else (.ret,⟨[(4,.bool false)],[],2⟩)) := by
 refine loop_ind (fun i => a.length - i) _ (fun i => ⟨[(0,.lst false z (ints a)),(1,.lst false z' (ints b)),(12,.int .i64 a.length),(13,.int .i64 i)],[],2⟩) _ ?_
 intro i hi ih s hs
 refine loop_s cd186 rfl rfl hs ?_
 refine wa_ (wc_region (w_ (b_ (h:=wo_nil (e_ (h:=aft_normal (wa_ (?_))))))))
 refine c_ (h1:=?_) (h2:=?_)
 rotate_right 1
 focus
  intro c1
  simp at c1;have : i = a.length := (by omega);subst this
  refine wc_exit (?_)
 rotate_right 1
 focus
  intro c1
  simp at c1;have hw := wrap_succ (i:=i) (by omega);obtain ⟨x,_,d1,g1⟩ := ints_cut c1;obtain ⟨y,_,d2,g2⟩ := ints_cut (l:=b) (i:=i) (by omega)
  refine wc_skip (?_)
 all_goals first
 | refine aft_exit ?_
 | (
  refine aft_normal ?_
  refine wa_ (wc_block (wa_ (wc_region (w_ (m_ (h:=w_ (a_ (h:=wo_nil (e_ (h:=aft_normal (wa_ (wc_draw (y_ (m_ (h:=ax_ (h:=y_ (m_ (h:=ax_ (h:=?_)))))))))))))))))))
  refine y_ (x_ (h:=ax_ (h:=y_ (l_ (h:=ax_ (h:=y_ (m_ (h:=ax_ (h:=y_ (m_ (h:=ax_ (h:=y_ (x_ (h:=ax_ (h:=y_ (l_ (h:=ax_ (h:=y_ (bE (h:=ax_ (h:=wo_nil (ed (h:=aft_normal (?_))))))))))))))))))))))))
  refine c_ (h1:=?_) (h2:=?_)
  rotate_right 1
  focus
   intro c2
   refine wc_skip (?_)
  rotate_right 1
  focus
   intro c2
   refine wa_ (wc_region (w_ (a_ (h:=wo_nil (e_ (h:=aft_normal (wc_ret (?_))))))))
  all_goals first | refine blk_normal ?_ | refine blk_ret ?_
  all_goals first
  | refine aft_ret ?_
  | (
   refine aft_normal ?_
   refine wc_region (w_ (b_ (h:=w_ (m_ (h:=wo_nil (e_ (h:=?_)))))))
   )
  )
 all_goals first
 | (refine (ih (i + 1) (by omega) ?_ _ ?_).trans ?_;(focus (first | omega | (simp;done) | (simp;omega)));(focus (simp [normE,hw];done));(focus (simp at c2;rw [d1,d2];simp [c2])))
 | (apply end_leaf (ex:=Ext.ret) 2 (some [4]);(focus (simp [normE];rfl));(focus (simp at c2;rw [d1,d2];simp [c2])))
 | (apply end_leaf (ex:=(Ext.exit 0)) 2 (some [4]);(focus (simp [normE];rfl));(focus (rw [if_pos (by simp [hab])])))
theorem e_eqG (a b : List Int) (z z' : Nat) (ha : a.length < 4000000000) (hb : b.length < 4000000000) : oc.call 186 [.lst false z (ints a),.lst false z' (ints b)] = some (.bool (decide (a = b)),[]) := by
 refine fun_s rfl cd186 rfl rfl rfl (by simp;rfl) (by simp;rfl) ?_
 refine wa_ (wc_region (w_ (a_ (h:=wo_nil (e_ (h:=aft_normal (wa_ (wa_ (wc_region (w_ (m_ (h:=w_ (le (h:=w_ (m_ (h:=w_ (le (h:=?_))))))))))))))))))
 refine w_ (bE (h:=wo_nil (e_ (h:=aft_normal (?_)))))
 refine c_ (h1:=?_) (h2:=?_)
 rotate_right 1
 focus
  intro c1
  simp at c1
  refine wc_skip (?_)
 rotate_right 1
 focus
  intro c1
  simp at c1;have hne : a ≠ b := (by rintro rfl;exact c1 rfl)
  refine wa_ (wc_region (w_ (a_ (h:=wo_nil (e_ (h:=aft_normal (wc_ret (?_))))))))
 all_goals first
 | refine aft_ret ?_
 | (
  refine aft_normal ?_
  refine wa_ (wa_ (wc_region (w_ (m_ (h:=w_ (le (h:=w_ (m_ (h:=wo_nil (e_ (h:=aft_normal (wc_block (?_)))))))))))))
  refine wc_loopI (l_eqG a b z z' ha (by omega) 0 (by omega) _ (by simp [normE])) ?_ ?_
  rotate_right 1
  focus
   intro c2
   skip
  rotate_right 1
  focus
   intro c2
   skip
  all_goals first | refine blk_ret ?_ | refine blk_exit ?_
  all_goals first
  | refine aft_ret ?_
  | (
   refine aft_normal ?_
   refine wa_ (wc_region (w_ (a_ (h:=wo_nil (e_ (h:=aft_normal (wc_ret (?_))))))))
   )
  )
 all_goals (refine fin_ (hr:=(res_tmp rfl res_nil)) (h:=?_);(focus (first | (simp_all;done) | (simp_all <;> omega) | (simp_all <;> split <;> simp_all <;> omega))))
def at0 (w : List Int) (a : Int) : Int := w.getD a.toNat 0
theorem ints_ix {w : List Int} {a : Int} (h0 : 0 ≤ a) (h : a < w.length) : (ints w)[a.toNat]? = some (.int .i64 (at0 w a)) := by
  have : a.toNat < w.length := by omega
  simp [ints,at0,this]
end Go.Proofs.Ytgkbmiaimjpbfaa.Ev
namespace Go.Proofs.Ytgkbmiaimjpbfaa.Ev
open Go
set_option maxRecDepth 100000
set_option linter.unusedSimpArgs false
set_option linter.unusedVariables false
set_option maxHeartbeats 2000000
end Go.Proofs.Ytgkbmiaimjpbfaa.Ev
namespace Go.Proofs.Ytgkbmiaimjpbfaa.Ev
open Go
set_option maxRecDepth 100000
set_option linter.unusedSimpArgs false
set_option linter.unusedVariables false
set_option maxHeartbeats 2000000
end Go.Proofs.Ytgkbmiaimjpbfaa.Ev
namespace Go.Proofs.Ytgkbmiaimjpbfaa.Ev
open Go
set_option maxRecDepth 100000
set_option linter.unusedSimpArgs false
set_option linter.unusedVariables false
set_option maxHeartbeats 2000000
end Go.Proofs.Ytgkbmiaimjpbfaa.Ev
namespace Go.Proofs.Ytgkbmiaimjpbfaa.Ev
open Go
set_option maxRecDepth 100000
set_option linter.unusedSimpArgs false
set_option linter.unusedVariables false
set_option maxHeartbeats 2000000
end Go.Proofs.Ytgkbmiaimjpbfaa.Ev
namespace Go.Proofs.Ytgkbmiaimjpbfaa.Ev
open Go
set_option maxRecDepth 100000
set_option linter.unusedSimpArgs false
set_option linter.unusedVariables false
set_option maxHeartbeats 2000000
def cmpI (a b : Int) : Int := if a < b then -1 else if b < a then 1 else 0
theorem e_nan (a : Int) : oc.call 244 [.int .i64 a] = some (.bool false,[]) := by
 refine fun_s rfl cd244 rfl rfl rfl (by simp;rfl) (by simp;rfl) ?_
 refine wa_ (wc_region (w_ (a_ (h:=wo_nil (e_ (h:=aft_normal (wa_ (wc_region (w_ (m_ (h:=w_ (m_ (h:=w_ (bE (h:=w_ (a_ (h:=wo_nil (e_ (h:=?_)))))))))))))))))))
 refine aft_normal (wc_ret (?_))
 all_goals (refine fin_ (hr:=(res_tmp rfl res_nil)) (h:=?_);(focus (first | (simp_all;done) | (simp_all <;> omega) | (simp_all <;> split <;> simp_all <;> omega))))
theorem e_cmp (a b : Int) : oc.call 219 [.int .i64 a,.int .i64 b] = some (.int .i64 (cmpI a b),[]) := by
 refine fun_s rfl cd219 rfl rfl rfl (by simp;rfl) (by simp;rfl) ?_
 refine wa_ (wc_region (w_ (a_ (h:=wo_nil (e_ (h:=aft_normal (wa_ (wc_region (w_ (m_ (h:=w_ (ca (hc:=e_nan _) (h:=w_ (a_ (h:=wo_nil (e_ (h:=aft_normal (?_))))))))))))))))))
 refine wa_ (wc_region (w_ (m_ (h:=w_ (ca (hc:=e_nan _) (h:=w_ (a_ (h:=wo_nil (e_ (h:=aft_normal (wa_ (wa_ (wc_region (w_ (m_ (h:=wo_nil (e_ (h:=?_))))))))))))))))))
 refine aft_normal (?_)
 refine c_ (h1:=?_) (h2:=?_)
 rotate_right 1
 focus
  intro c1
  first
  | exact dn c1
  | (
   have d1 := c1;try simp at d1
   refine wc_skip (?_)
   )
 rotate_right 1
 focus
  intro c1
  first
  | exact dn c1
  | (
   have d1 := c1;try simp at d1
   refine wa_ (wa_ (wc_region (w_ (m_ (h:=wo_nil (e_ (h:=aft_normal (?_))))))))
   refine c_ (h1:=?_) (h2:=?_)
   rotate_right 1
   focus
    intro c2
    first
    | exact dn c2
    | (
     have d2 := c2;try simp at d2
     refine wc_skip (?_)
     )
   rotate_right 1
   focus
    intro c2
    first
    | exact dn c2
    | (
     have d2 := c2;try simp at d2
     refine wa_ (wc_region (w_ (a_ (h:=wo_nil (e_ (h:=aft_normal (wc_ret (?_))))))))
     )
   all_goals first
   | refine aft_ret ?_
   | (
    refine aft_normal ?_
    refine wa_ (wc_region (w_ (a_ (h:=wo_nil (e_ (h:=aft_normal (wc_ret (?_))))))))
    )
   )
 all_goals first
 | refine aft_ret ?_
 | (
  refine aft_normal ?_
  refine wa_ (wa_ (wc_region (w_ (m_ (h:=wo_nil (e_ (h:=aft_normal (?_))))))))
  refine c_ (h1:=?_) (h2:=?_)
  rotate_right 1
  focus
   intro c3
   first
   | exact dn c3
   | (
    have d3 := c3;try simp at d3
    refine wc_skip (?_)
    )
  rotate_right 1
  focus
   intro c3
   first
   | exact dn c3
   | (
    have d3 := c3;try simp at d3
    refine wa_ (wc_region (w_ (a_ (h:=wo_nil (e_ (h:=aft_normal (wc_ret (?_))))))))
    )
  all_goals first
  | refine aft_ret ?_
  | (
   refine aft_normal ?_
   refine wa_ (wa_ (wc_region (w_ (m_ (h:=w_ (m_ (h:=w_ (b_ (h:=wo_nil (e_ (h:=aft_normal (?_))))))))))))
   refine c_ (h1:=?_) (h2:=?_)
   rotate_right 1
   focus
    intro c4
    first
    | exact dn c4
    | (
     have d4 := c4;try simp at d4
     refine wc_skip (?_)
     )
   rotate_right 1
   focus
    intro c4
    first
    | exact dn c4
    | (
     have d4 := c4;try simp at d4
     refine wa_ (wc_region (w_ (a_ (h:=wo_nil (e_ (h:=aft_normal (wc_ret (?_))))))))
     )
   all_goals first
   | refine aft_ret ?_
   | (
    refine aft_normal ?_
    refine wa_ (wa_ (wc_region (w_ (m_ (h:=w_ (m_ (h:=w_ (b_ (h:=wo_nil (e_ (h:=aft_normal (?_))))))))))))
    refine c_ (h1:=?_) (h2:=?_)
    rotate_right 1
    focus
     intro c5
     first
     | exact dn c5
     | (
      have d5 := c5;try simp at d5
      refine wc_skip (?_)
      )
    rotate_right 1
    focus
     intro c5
     first
     | exact dn c5
     | (
      have d5 := c5;try simp at d5
      refine wa_ (wc_region (w_ (a_ (h:=wo_nil (e_ (h:=aft_normal (wc_ret (?_))))))))
      )
    all_goals first
    | refine aft_ret ?_
    | (
     refine aft_normal ?_
     refine wa_ (wc_region (w_ (a_ (h:=wo_nil (e_ (h:=aft_normal (wc_ret (?_))))))))
     )
    )
   )
  )
 all_goals (refine fin_ (hr:=(res_tmp rfl res_nil)) (h:=?_);(focus (simp [cmpI];grind)))
end Go.Proofs.Ytgkbmiaimjpbfaa.Ev
namespace Go.Proofs.Ytgkbmiaimjpbfaa.Ev
open Go
set_option maxRecDepth 100000
set_option linter.unusedSimpArgs false
set_option linter.unusedVariables false
set_option maxHeartbeats 2000000
def rowF (r : List Int) : Int := if 4 < r.length then 2 else if r.all (fun c => inI c (-1000000000) 1000000000) = true then 0 else 3
theorem l_rowI (r : List Int) (hr : r.length ≤ 4) : ∀ i : Nat,(i ≤ r.length) → ∀ s,normE 1 (some [8,9,10]) s = ⟨[(8,.lst false 0 (ints r)),(9,.int .i64 r.length),(10,.int .i64 i)],[],1⟩ →
 oc.loop 99 4 s = some (if (r.drop i).all (fun c => inI c (-1000000000) 1000000000) = true then (.exit 0,⟨[],[],1⟩) else (.ret,⟨[(2,.int .i64 3)],[],1⟩)) := by
 refine loop_ind (σ:=Nat) (fun i => r.length - i) _ (fun i => ⟨[(8,.lst false 0 (ints r)),(9,.int .i64 r.length),(10,.int .i64 i)],[],1⟩) _ ?_
 intro i hi ih s hs
 refine loop_s cd99 rfl rfl hs ?_
 refine wa_ (wc_region (w_ (b_ (h:=wo_nil (e_ (h:=aft_normal (wa_ (?_))))))))
 refine c_ (h1:=?_) (h2:=?_)
 rotate_right 1
 focus
  intro c1
  first
  | exact dn c1
  | (
   have d1 := c1;try simp at d1
   refine wc_exit (?_)
   )
 rotate_right 1
 focus
  intro c1
  first
  | exact dn c1
  | (
   have d1 := c1;try simp at d1
   have hw := wrap_succ (i:=i) (by omega);obtain ⟨x,hx,e1,g1⟩ := ints_cut (l:=r) (i:=i) (by omega)
   refine wc_skip (?_)
   )
 all_goals first
 | refine aft_exit ?_
 | (
  refine aft_normal ?_
  refine wa_ (wc_block (wa_ (wc_region (w_ (x_ (h:=w_ (l_ (h:=w_ (a_ (h:=wo_nil (e_ (h:=aft_normal (wa_ (wc_region (w_ (m_ (h:=?_)))))))))))))))))
  refine w_ (ca (hc:=e_in _ _ _) (h:=w_ (u_ (h:=wo_nil (e_ (h:=aft_normal (?_)))))))
  refine c_ (h1:=?_) (h2:=?_)
  rotate_right 1
  focus
   intro c2
   first
   | exact dn c2
   | (
    have d2 := c2;try simp at d2
    refine wc_skip (?_)
    )
  rotate_right 1
  focus
   intro c2
   first
   | exact dn c2
   | (
    have d2 := c2;try simp at d2
    refine wa_ (wc_region (w_ (a_ (h:=wo_nil (e_ (h:=aft_normal (wc_ret (?_))))))))
    )
  all_goals first | refine blk_normal ?_ | refine blk_ret ?_
  all_goals first
  | refine aft_ret ?_
  | (
   refine aft_normal ?_
   refine wc_region (w_ (b_ (h:=w_ (m_ (h:=wo_nil (e_ (h:=?_)))))))
   )
  )
 all_goals first
 | (refine (ih (i + 1) (by omega) ?_ _ ?_).trans ?_;(focus (first | omega | (simp;done) | (simp;omega)));(focus (simp [normE,hw];done));(focus (rw [e1];simp [d2])))
 | (apply end_leaf (ex:=Ext.ret) 1 (some [2]);(focus (simp [normE];rfl));(focus (rw [e1];simp [d2])))
 | (apply end_leaf (ex:=(Ext.exit 0)) 1 (some [2]);(focus (simp [normE];rfl));(focus (rw [List.drop_eq_nil_of_le (by omega)];simp)))
theorem e_rowI (r : List Int) (h : r.length < 2000000) : oc.call 99 [.lst false 0 (ints r)] = some (.int .i64 (rowF r),[]) := by
 refine fun_s rfl cd99 rfl rfl rfl (by simp;rfl) (by simp;rfl) ?_
 refine wa_ (wc_region (w_ (a_ (h:=wo_nil (e_ (h:=aft_normal (wa_ (wa_ (wc_region (w_ (m_ (h:=w_ (le (h:=w_ (b_ (h:=wo_nil (e_ (h:=?_))))))))))))))))))
 refine aft_normal (?_)
 refine c_ (h1:=?_) (h2:=?_)
 rotate_right 1
 focus
  intro c1
  first
  | exact dn c1
  | (
   have d1 := c1;try simp at d1
   refine wc_skip (?_)
   )
 rotate_right 1
 focus
  intro c1
  first
  | exact dn c1
  | (
   have d1 := c1;try simp at d1
   refine wa_ (wc_region (w_ (a_ (h:=wo_nil (e_ (h:=aft_normal (wc_ret (?_))))))))
   )
 all_goals first
 | refine aft_ret ?_
 | (
  refine aft_normal ?_
  refine wa_ (wa_ (wc_region (w_ (m_ (h:=w_ (le (h:=w_ (m_ (h:=wo_nil (e_ (h:=aft_normal (wc_block (?_)))))))))))))
  refine wc_loopI (l_rowI r (by omega) 0 (by omega) _ (by simp [normE])) ?_ ?_
  rotate_right 1
  focus
   intro c2
   first
   | exact dn c2
   | (
    have d2 := c2;try simp at d2
    skip
    )
  rotate_right 1
  focus
   intro c2
   first
   | exact dn c2
   | (
    have d2 := c2;try simp at d2
    skip
    )
  all_goals first | refine blk_ret ?_ | refine blk_exit ?_
  all_goals first
  | refine aft_ret ?_
  | (
   refine aft_normal ?_
   refine wa_ (wc_region (w_ (a_ (h:=wo_nil (e_ (h:=aft_normal (wc_ret (?_))))))))
   )
  )
 all_goals (refine fin_ (hr:=(res_tmp rfl res_nil)) (h:=?_);(focus (simp [rowF];grind)))
theorem l_rowS (r : List Int) (hr : r.length ≤ 4) : ∀ i : Nat,(i ≤ r.length) → ∀ s,normE 1 (some [0,3]) s = ⟨[(0,.lst false 0 (ints r)),(3,.int .i64 i)],[],1⟩ →
 oc.loop 145 4 s = some (if (r.drop i).all (fun c => inI c (-1000000000) 1000000000) = true then (.exit 0,⟨[],[],1⟩) else (.ret,⟨[(2,.int .i64 3)],[],1⟩)) := by
 refine loop_ind (σ:=Nat) (fun i => r.length - i) _ (fun i => ⟨[(0,.lst false 0 (ints r)),(3,.int .i64 i)],[],1⟩) _ ?_
 intro i hi ih s hs
 refine loop_s cd145 rfl rfl hs ?_
 refine wa_ (wa_ (wc_region (w_ (m_ (h:=w_ (m_ (h:=w_ (le (h:=w_ (b_ (h:=wo_nil (e_ (h:=aft_normal (?_))))))))))))))
 refine c_ (h1:=?_) (h2:=?_)
 rotate_right 1
 focus
  intro c1
  first
  | exact dn c1
  | (
   have d1 := c1;try simp at d1
   refine wc_exit (?_)
   )
 rotate_right 1
 focus
  intro c1
  first
  | exact dn c1
  | (
   have d1 := c1;try simp at d1
   have hw := wrap_succ (i:=i) (by omega);obtain ⟨x,hx,e1,g1⟩ := ints_cut (l:=r) (i:=i) (by omega)
   refine wc_skip (?_)
   )
 all_goals first
 | refine aft_exit ?_
 | (
  refine aft_normal ?_
  refine wa_ (wc_block (wa_ (wc_region (w_ (m_ (h:=w_ (m_ (h:=w_ (x_ (h:=w_ (l_ (h:=w_ (ca (hc:=e_l1In _ _ _) (h:=w_ (u_ (h:=wo_nil (e_ (h:=aft_normal (?_)))))))))))))))))))
  refine c_ (h1:=?_) (h2:=?_)
  rotate_right 1
  focus
   intro c2
   first
   | exact dn c2
   | (
    have d2 := c2;try simp at d2
    refine wc_skip (?_)
    )
  rotate_right 1
  focus
   intro c2
   first
   | exact dn c2
   | (
    have d2 := c2;try simp at d2
    refine wa_ (wc_region (w_ (a_ (h:=wo_nil (e_ (h:=aft_normal (wc_ret (?_))))))))
    )
  all_goals first | refine blk_normal ?_ | refine blk_ret ?_
  all_goals first
  | refine aft_ret ?_
  | (
   refine aft_normal ?_
   refine wc_region (w_ (m_ (h:=w_ (b_ (h:=w_ (a_ (h:=wo_nil (e_ (h:=?_)))))))))
   )
  )
 all_goals first
 | (refine (ih (i + 1) (by omega) ?_ _ ?_).trans ?_;(focus (first | omega | (simp;done) | (simp;omega)));(focus (simp [normE,hw];done));(focus (rw [e1];simp [d2])))
 | (apply end_leaf (ex:=Ext.ret) 1 (some [2]);(focus (simp [normE];rfl));(focus (rw [e1];simp [d2])))
 | (apply end_leaf (ex:=(Ext.exit 0)) 1 (some [2]);(focus (simp [normE];rfl));(focus (rw [List.drop_eq_nil_of_le (by omega)];simp)))
theorem e_rowS (r : List Int) (h : r.length < 2000000) : oc.call 145 [.lst false 0 (ints r)] = some (.int .i64 (rowF r),[]) := by
 refine fun_s rfl cd145 rfl rfl rfl (by simp;rfl) (by simp;rfl) ?_
 refine wa_ (wc_region (w_ (a_ (h:=wo_nil (e_ (h:=aft_normal (wa_ (wa_ (wc_region (w_ (m_ (h:=w_ (le (h:=w_ (b_ (h:=wo_nil (e_ (h:=?_))))))))))))))))))
 refine aft_normal (?_)
 refine c_ (h1:=?_) (h2:=?_)
 rotate_right 1
 focus
  intro c1
  first
  | exact dn c1
  | (
   have d1 := c1;try simp at d1
   refine wc_skip (?_)
   )
 rotate_right 1
 focus
  intro c1
  first
  | exact dn c1
  | (
   have d1 := c1;try simp at d1
   refine wa_ (wc_region (w_ (a_ (h:=wo_nil (e_ (h:=aft_normal (wc_ret (?_))))))))
   )
 all_goals first
 | refine aft_ret ?_
 | (
  refine aft_normal ?_
  refine wa_ (wa_ (wc_region (w_ (a_ (h:=wo_nil (e_ (h:=aft_normal (wc_block (?_)))))))))
  refine wc_loopI (l_rowS r (by omega) 0 (by omega) _ (by simp [normE])) ?_ ?_
  rotate_right 1
  focus
   intro c2
   first
   | exact dn c2
   | (
    have d2 := c2;try simp at d2
    skip
    )
  rotate_right 1
  focus
   intro c2
   first
   | exact dn c2
   | (
    have d2 := c2;try simp at d2
    skip
    )
  all_goals first | refine blk_ret ?_ | refine blk_exit ?_
  all_goals first
  | refine aft_ret ?_
  | (
   refine aft_normal ?_
   refine wa_ (wc_region (w_ (a_ (h:=wo_nil (e_ (h:=aft_normal (wc_ret (?_))))))))
   )
  )
 all_goals (refine fin_ (hr:=(res_tmp rfl res_nil)) (h:=?_);(focus (simp [rowF];grind)))
theorem rowF_zero {r : List Int} (h : rowF r = 0) : r.length ≤ 4 ∧ ∀ c ∈ r,-1000000000 ≤ c ∧ c ≤ 1000000000 := by
  unfold rowF at h
  split at h
  · cases h
  · split at h
    · rename_i h1 h2
      refine ⟨by omega,fun c hc => ?_⟩
      have := List.all_eq_true.1 h2 c hc
      simp [inI] at this;exact this
    · cases h
def hashC (h c : Int) : Int := (IntKind.i64.wrap (IntKind.i64.wrap (h * 131) + (IntKind.i64.wrap (c.tmod 1000003 + 1000003)).tmod 1000003)).tmod 1000003
def hashN (r : List Int) : Int := r.foldl hashC 17
theorem l_hashI (r : List Int) (hr : r.length < 2000000) : ∀ x : Nat × Int,(x.1 ≤ r.length) → ∀ s,normE 1 (some [3,6,7,8]) s = ⟨[(3,.int .i64 x.2),(6,.lst false 0 (ints r)),(7,.int .i64 r.length),(8,.int .i64 x.1)],[],1⟩ →
 oc.loop 156 3 s = some (.exit 0,⟨[(3,.int .i64 ((r.drop x.1).foldl hashC x.2))],[],1⟩) := by
 refine loop_ind (σ:=Nat × Int) (fun x => r.length - x.1) _ (fun x => ⟨[(3,.int .i64 x.2),(6,.lst false 0 (ints r)),(7,.int .i64 r.length),(8,.int .i64 x.1)],[],1⟩) _ ?_
 rintro ⟨i,h⟩ hi ih s hs
 simp only at hi
 refine loop_s cd156 rfl rfl hs ?_
 refine wa_ (wc_region (w_ (b_ (h:=wo_nil (e_ (h:=aft_normal (wa_ (?_))))))))
 refine c_ (h1:=?_) (h2:=?_)
 rotate_right 1
 focus
  intro c1
  first
  | exact dn c1
  | (
   have d1 := c1;try simp at d1
   refine wc_exit (?_)
   )
 rotate_right 1
 focus
  intro c1
  first
  | exact dn c1
  | (
   have d1 := c1;try simp at d1
   have hw := wrap_succ (i:=i) (by omega);obtain ⟨x,hx,e1,g1⟩ := ints_cut (l:=r) (i:=i) (by omega)
   refine wc_skip (?_)
   )
 all_goals first
 | refine aft_exit ?_
 | (
  refine aft_normal ?_
  refine wa_ (wc_block (wa_ (wc_region (w_ (x_ (h:=w_ (l_ (h:=w_ (a_ (h:=wo_nil (e_ (h:=aft_normal (wc_region (w_ (m_ (h:=w_ (b_ (h:=?_))))))))))))))))))
  refine w_ (m_ (h:=w_ (b_ (h:=w_ (b_ (h:=w_ (b_ (h:=w_ (b_ (h:=w_ (b_ (h:=w_ (a_ (h:=wo_nil (e_ (h:=blk_normal (aft_normal (wc_region (w_ (b_ (h:=?_)))))))))))))))))))))
  refine w_ (m_ (h:=wo_nil (e_ (h:=?_))))
  )
 all_goals first
 | (refine (ih ((i + 1,hashC h x)) (by simp;omega) ?_ _ ?_).trans ?_;(focus (first | omega | (simp;done) | (simp;omega)));(focus (simp [normE,hw,hashC];done));(focus (simp only [e1,List.foldl_cons])))
 | (apply end_leaf (ex:=(Ext.exit 0)) 1 (some [3]);(focus (simp [normE];rfl));(focus (simp only [List.drop_eq_nil_of_le (show r.length ≤ i by omega),List.foldl_nil])))
theorem e_hashI (r : List Int) (h : r.length < 2000000) : oc.call 156 [.lst false 0 (ints r)] = some (.int .i64 (hashN r),[]) := by
 refine fun_s rfl cd156 rfl rfl rfl (by simp;rfl) (by simp;rfl) ?_
 refine wa_ (wc_region (w_ (a_ (h:=wo_nil (e_ (h:=aft_normal (wa_ (wc_region (w_ (a_ (h:=wo_nil (e_ (h:=aft_normal (wa_ (wa_ (?_))))))))))))))))
 refine wc_region (w_ (m_ (h:=w_ (le (h:=w_ (m_ (h:=wo_nil (e_ (h:=aft_normal (wc_block (?_)))))))))))
 refine wc_loop (l_hashI r h (0,17) (by simp) _ (by simp [normE])) ?_
 refine blk_exit (aft_normal (wa_ (wc_region (w_ (m_ (h:=w_ (a_ (h:=wo_nil (e_ (h:=aft_normal (wc_ret (?_))))))))))))
 all_goals (refine fin_ (hr:=(res_tmp rfl res_nil)) (h:=?_);(focus (simp [hashN])))
theorem l_hashS (r : List Int) (hr : r.length < 2000000) : ∀ x : Nat × Int,(x.1 ≤ r.length) → ∀ s,normE 1 (some [0,3,4]) s = ⟨[(0,.lst false 0 (ints r)),(3,.int .i64 x.2),(4,.int .i64 x.1)],[],1⟩ →
 oc.loop 148 3 s = some (.exit 0,⟨[(3,.int .i64 ((r.drop x.1).foldl hashC x.2))],[],1⟩) := by
 refine loop_ind (σ:=Nat × Int) (fun x => r.length - x.1) _ (fun x => ⟨[(0,.lst false 0 (ints r)),(3,.int .i64 x.2),(4,.int .i64 x.1)],[],1⟩) _ ?_
 rintro ⟨i,h⟩ hi ih s hs
 simp only at hi
 refine loop_s cd148 rfl rfl hs ?_
 refine wa_ (wa_ (wc_region (w_ (m_ (h:=w_ (m_ (h:=w_ (le (h:=w_ (b_ (h:=wo_nil (e_ (h:=aft_normal (?_))))))))))))))
 refine c_ (h1:=?_) (h2:=?_)
 rotate_right 1
 focus
  intro c1
  first
  | exact dn c1
  | (
   have d1 := c1;try simp at d1
   refine wc_exit (?_)
   )
 rotate_right 1
 focus
  intro c1
  first
  | exact dn c1
  | (
   have d1 := c1;try simp at d1
   have hw := wrap_succ (i:=i) (by omega);obtain ⟨x,hx,e1,g1⟩ := ints_cut (l:=r) (i:=i) (by omega)
   refine wc_skip (?_)
   )
 all_goals first
 | refine aft_exit ?_
 | (
  refine aft_normal ?_
  refine wa_ (wc_block (wa_ (wc_region (w_ (m_ (h:=w_ (m_ (h:=w_ (x_ (h:=w_ (l_ (h:=w_ (b_ (h:=w_ (b_ (h:=w_ (b_ (h:=w_ (a_ (h:=?_))))))))))))))))))))
  refine wo_nil (e_ (h:=aft_normal (wc_region (w_ (m_ (h:=w_ (b_ (h:=w_ (m_ (h:=w_ (b_ (h:=w_ (b_ (h:=w_ (a_ (h:=wo_nil (e_ (h:=blk_normal (aft_normal (?_))))))))))))))))))))
  refine wc_region (w_ (m_ (h:=w_ (b_ (h:=w_ (a_ (h:=wo_nil (e_ (h:=?_)))))))))
  )
 all_goals first
 | (refine (ih ((i + 1,hashC h x)) (by simp;omega) ?_ _ ?_).trans ?_;(focus (first | omega | (simp;done) | (simp;omega)));(focus (simp [normE,hw,hashC];done));(focus (simp only [e1,List.foldl_cons])))
 | (apply end_leaf (ex:=(Ext.exit 0)) 1 (some [3]);(focus (simp [normE];rfl));(focus (simp only [List.drop_eq_nil_of_le (show r.length ≤ i by omega),List.foldl_nil])))
theorem e_hashS (r : List Int) (h : r.length < 2000000) : oc.call 148 [.lst false 0 (ints r)] = some (.int .i64 (hashN r),[]) := by
 refine fun_s rfl cd148 rfl rfl rfl (by simp;rfl) (by simp;rfl) ?_
 refine wa_ (wc_region (w_ (a_ (h:=wo_nil (e_ (h:=aft_normal (wa_ (wc_region (w_ (a_ (h:=wo_nil (e_ (h:=aft_normal (wa_ (wa_ (?_))))))))))))))))
 refine wc_region (w_ (a_ (h:=wo_nil (e_ (h:=aft_normal (wc_block (?_)))))))
 refine wc_loop (l_hashS r h (0,17) (by simp) _ (by simp [normE])) ?_
 refine blk_exit (aft_normal (wa_ (wc_region (w_ (m_ (h:=w_ (a_ (h:=wo_nil (e_ (h:=aft_normal (wc_ret (?_))))))))))))
 all_goals (refine fin_ (hr:=(res_tmp rfl res_nil)) (h:=?_);(focus (simp [hashN])))
theorem hashC_in {h c : Int} (h0 : 0 ≤ h) (h1 : h < 1000003) : 0 ≤ hashC h c ∧ hashC h c < 1000003 := by
  unfold hashC
  have a1 : -1000003 < c.tmod 1000003 ∧ c.tmod 1000003 < 1000003 := ⟨by have := Int.lt_tmod_of_pos c (b:=1000003) (by decide);omega,Int.tmod_lt_of_pos c (by decide)⟩
  rw [wrap_id (a:=c.tmod 1000003 + 1000003) (by omega) (by omega),wrap_id (a:=h * 131) (by omega) (by omega)]
  generalize hq : (c.tmod 1000003 + 1000003).tmod 1000003 = q
  have a2 : 0 ≤ q ∧ q < 1000003 := by rw [← hq];exact ⟨Int.tmod_nonneg _ (by omega),Int.tmod_lt_of_pos _ (by decide)⟩
  rw [wrap_id (by omega) (by omega)]
  exact ⟨Int.tmod_nonneg _ (by omega),Int.tmod_lt_of_pos _ (by decide)⟩
theorem hashN_in (r : List Int) : 0 ≤ hashN r ∧ hashN r < 1000003 := by
  have : ∀ (r : List Int) (h : Int),0 ≤ h → h < 1000003 → 0 ≤ r.foldl hashC h ∧ r.foldl hashC h < 1000003 := by
    intro r
    induction r with
    | nil => intro h h0 h1;exact ⟨h0,h1⟩
    | cons c r ih => intro h h0 h1;exact ih _ (hashC_in h0 h1).1 (hashC_in h0 h1).2
  exact this r 17 (by decide) (by decide)
def shardN (m : Int) (r : List Int) (k : Int) : Int := (hashN (r.take k.toNat)).tmod m
theorem shardN_in {m : Int} {r : List Int} {k : Int} (hm : 0 < m) : 0 ≤ shardN m r k ∧ shardN m r k < m := by
  have := hashN_in (r.take k.toNat)
  exact ⟨Int.tmod_nonneg _ this.1,Int.tmod_lt_of_pos _ hm⟩
theorem e_shardI (m k : Int) (r : List Int) (h : r.length < 2000000) (hm : m ≠ 0) (h0 : 0 ≤ k) (h1 : k ≤ r.length) : oc.call 80 [.int .i64 m,.lst false 0 (ints r),.int .i64 k] = some (.int .i64 (shardN m r k),[]) := by
 refine fun_s rfl cd80 rfl rfl rfl (by simp;rfl) (by simp;rfl) ?_
 refine wa_ (wc_region (w_ (a_ (h:=wo_nil (e_ (h:=aft_normal (wa_ (wc_region (w_ (m_ (h:=w_ (m_ (h:=w_ (sl (h:=w_ (ca (hc:=e_hashI _ (by simp;omega)) (h:=w_ (m_ (h:=?_)))))))))))))))))))
 refine w_ (b_ (h:=w_ (a_ (h:=wo_nil (e_ (h:=aft_normal (wc_ret (?_))))))))
 all_goals (refine fin_ (hr:=(res_tmp rfl res_nil)) (h:=?_);(focus (simp [shardN])))
theorem e_shardS (m k : Int) (r : List Int) (h : r.length < 2000000) (hm : m ≠ 0) (h0 : 0 ≤ k) (h1 : k ≤ r.length) : oc.call 72 [.int .i64 m,.lst false 0 (ints r),.int .i64 k] = some (.int .i64 (shardN m r k),[]) := by
 refine fun_s rfl cd72 rfl rfl rfl (by simp;rfl) (by simp;rfl) ?_
 refine wa_ (wc_region (w_ (a_ (h:=wo_nil (e_ (h:=aft_normal (wa_ (wc_region (w_ (m_ (h:=w_ (m_ (h:=w_ (sl (h:=w_ (ca (hc:=e_hashS _ (by simp;omega)) (h:=w_ (m_ (h:=?_)))))))))))))))))))
 refine w_ (b_ (h:=w_ (a_ (h:=wo_nil (e_ (h:=aft_normal (wc_ret (?_))))))))
 all_goals (refine fin_ (hr:=(res_tmp rfl res_nil)) (h:=?_);(focus (simp [shardN])))
end Go.Proofs.Ytgkbmiaimjpbfaa.Ev
namespace Go.Proofs.Ytgkbmiaimjpbfaa.Ev
open Go
set_option maxRecDepth 100000
set_option linter.unusedSimpArgs false
set_option linter.unusedVariables false
set_option maxHeartbeats 2000000
end Go.Proofs.Ytgkbmiaimjpbfaa.Ev
namespace Go.Proofs.Ytgkbmiaimjpbfaa.Ev
open Go
set_option maxRecDepth 100000
set_option linter.unusedSimpArgs false
set_option linter.unusedVariables false
set_option maxHeartbeats 2000000
def cmpL : List Int → List Int → Int
  | [],[] => 0
  | [],_ :: _ => -1
  | _ :: _,[] => 1
  | a :: r,b :: s => if a < b then -1 else if b < a then 1 else cmpL r s
theorem cmpL_anti : ∀ (a b : List Int),cmpL a b = -cmpL b a
  | [],[] => rfl
  | [],_ :: _ => rfl
  | _ :: _,[] => rfl
  | a :: r,b :: s => by
    simp only [cmpL]
    rw [cmpL_anti r s]
    split <;> split <;> first | omega | rfl
theorem cmpL_in : ∀ (a b : List Int),-1 ≤ cmpL a b ∧ cmpL a b ≤ 1
  | [],[] => by simp [cmpL]
  | [],_ :: _ => by simp [cmpL]
  | _ :: _,[] => by simp [cmpL]
  | a :: r,b :: s => by
    simp only [cmpL]
    have := cmpL_in r s
    split
    · omega
    · split <;> omega
theorem cmpL_eq : ∀ {a b : List Int},cmpL a b = 0 ↔ a = b
  | [],[] => by simp [cmpL]
  | [],_ :: _ => by simp [cmpL]
  | _ :: _,[] => by simp [cmpL]
  | a :: r,b :: s => by
    simp only [cmpL,List.cons.injEq]
    rw [← cmpL_eq]
    split
    · constructor <;> intro h <;> omega
    · split
      · constructor <;> intro h <;> omega
      · constructor
        · intro h;exact ⟨by omega,h⟩
        · intro h;exact h.2
theorem e_nanI (a : Int) : oc.call 245 [.int .i64 a] = some (.bool false,[]) := by
 refine fun_s rfl cd245 rfl rfl rfl (by simp;rfl) (by simp;rfl) ?_
 refine wa_ (wc_region (w_ (a_ (h:=wo_nil (e_ (h:=aft_normal (wa_ (wc_region (w_ (m_ (h:=w_ (m_ (h:=w_ (bE (h:=w_ (a_ (h:=wo_nil (e_ (h:=?_)))))))))))))))))))
 refine aft_normal (wc_ret (?_))
 all_goals (refine fin_ (hr:=(res_tmp rfl res_nil)) (h:=?_);(focus (first | (simp_all;done) | (simp_all <;> omega) | (simp_all <;> split <;> simp_all <;> omega))))
theorem e_cmpi (a b : Int) : oc.call 220 [.int .i64 a,.int .i64 b] = some (.int .i64 (cmpI a b),[]) := by
 refine fun_s rfl cd220 rfl rfl rfl (by simp;rfl) (by simp;rfl) ?_
 refine wa_ (wc_region (w_ (a_ (h:=wo_nil (e_ (h:=aft_normal (wa_ (wc_region (w_ (m_ (h:=w_ (ca (hc:=e_nanI _) (h:=w_ (a_ (h:=wo_nil (e_ (h:=aft_normal (?_))))))))))))))))))
 refine wa_ (wc_region (w_ (m_ (h:=w_ (ca (hc:=e_nanI _) (h:=w_ (a_ (h:=wo_nil (e_ (h:=aft_normal (wa_ (wa_ (wc_region (w_ (m_ (h:=wo_nil (e_ (h:=?_))))))))))))))))))
 refine aft_normal (?_)
 refine c_ (h1:=?_) (h2:=?_)
 rotate_right 1
 focus
  intro c1
  first
  | exact dn c1
  | (
   have d1 := c1;try simp at d1
   refine wc_skip (?_)
   )
 rotate_right 1
 focus
  intro c1
  first
  | exact dn c1
  | (
   have d1 := c1;try simp at d1
   refine wa_ (wa_ (wc_region (w_ (m_ (h:=wo_nil (e_ (h:=aft_normal (?_))))))))
   refine c_ (h1:=?_) (h2:=?_)
   rotate_right 1
   focus
    intro c2
    first
    | exact dn c2
    | (
     have d2 := c2;try simp at d2
     refine wc_skip (?_)
     )
   rotate_right 1
   focus
    intro c2
    first
    | exact dn c2
    | (
     have d2 := c2;try simp at d2
     refine wa_ (wc_region (w_ (a_ (h:=wo_nil (e_ (h:=aft_normal (wc_ret (?_))))))))
     )
   all_goals first
   | refine aft_ret ?_
   | (
    refine aft_normal ?_
    refine wa_ (wc_region (w_ (a_ (h:=wo_nil (e_ (h:=aft_normal (wc_ret (?_))))))))
    )
   )
 all_goals first
 | refine aft_ret ?_
 | (
  refine aft_normal ?_
  refine wa_ (wa_ (wc_region (w_ (m_ (h:=wo_nil (e_ (h:=aft_normal (?_))))))))
  refine c_ (h1:=?_) (h2:=?_)
  rotate_right 1
  focus
   intro c3
   first
   | exact dn c3
   | (
    have d3 := c3;try simp at d3
    refine wc_skip (?_)
    )
  rotate_right 1
  focus
   intro c3
   first
   | exact dn c3
   | (
    have d3 := c3;try simp at d3
    refine wa_ (wc_region (w_ (a_ (h:=wo_nil (e_ (h:=aft_normal (wc_ret (?_))))))))
    )
  all_goals first
  | refine aft_ret ?_
  | (
   refine aft_normal ?_
   refine wa_ (wa_ (wc_region (w_ (m_ (h:=w_ (m_ (h:=w_ (b_ (h:=wo_nil (e_ (h:=aft_normal (?_))))))))))))
   refine c_ (h1:=?_) (h2:=?_)
   rotate_right 1
   focus
    intro c4
    first
    | exact dn c4
    | (
     have d4 := c4;try simp at d4
     refine wc_skip (?_)
     )
   rotate_right 1
   focus
    intro c4
    first
    | exact dn c4
    | (
     have d4 := c4;try simp at d4
     refine wa_ (wc_region (w_ (a_ (h:=wo_nil (e_ (h:=aft_normal (wc_ret (?_))))))))
     )
   all_goals first
   | refine aft_ret ?_
   | (
    refine aft_normal ?_
    refine wa_ (wa_ (wc_region (w_ (m_ (h:=w_ (m_ (h:=w_ (b_ (h:=wo_nil (e_ (h:=aft_normal (?_))))))))))))
    refine c_ (h1:=?_) (h2:=?_)
    rotate_right 1
    focus
     intro c5
     first
     | exact dn c5
     | (
      have d5 := c5;try simp at d5
      refine wc_skip (?_)
      )
    rotate_right 1
    focus
     intro c5
     first
     | exact dn c5
     | (
      have d5 := c5;try simp at d5
      refine wa_ (wc_region (w_ (a_ (h:=wo_nil (e_ (h:=aft_normal (wc_ret (?_))))))))
      )
    all_goals first
    | refine aft_ret ?_
    | (
     refine aft_normal ?_
     refine wa_ (wc_region (w_ (a_ (h:=wo_nil (e_ (h:=aft_normal (wc_ret (?_))))))))
     )
    )
   )
  )
 all_goals (refine fin_ (hr:=(res_tmp rfl res_nil)) (h:=?_);(focus (simp [cmpI];grind)))
theorem cmpL_pre : ∀ {a b : List Int},a.take (min a.length b.length) = b.take (min a.length b.length) → cmpL a b = cmpI a.length b.length
  | [],[],_ => rfl
  | [],y :: s,_ => by simp [cmpL,cmpI] <;> omega
  | x :: r,[],_ => by simp [cmpL,cmpI] <;> omega
  | x :: r,y :: s,h => by
    have hm : min (x :: r).length (y :: s).length = min r.length s.length + 1 := by simp only [List.length_cons];omega
    rw [hm,List.take_succ_cons,List.take_succ_cons,List.cons.injEq] at h
    have := cmpL_pre h.2
    simp only [cmpL,h.1,Int.lt_irrefl,if_false,this,cmpI,List.length_cons]
    split <;> split <;> first | omega | (split <;> omega) | rfl
theorem cut2 {a b : List Int} {i : Nat} (h : i < min a.length b.length) : ∃ x y,a.drop i = x :: a.drop (i + 1) ∧ b.drop i = y :: b.drop (i + 1) ∧ (a.take (min a.length b.length)).drop i = x :: (a.take (min a.length b.length)).drop (i + 1) ∧ (b.take (min a.length b.length)).drop i = y :: (b.take (min a.length b.length)).drop (i + 1) ∧
    (ints a)[(i : Int).toNat]? = some (.int .i64 x) ∧ (ints b)[(i : Int).toNat]? = some (.int .i64 y) := by
  have h1 : i < a.length := by omega
  have h2 : i < b.length := by omega
  refine ⟨a[i],b[i],List.drop_eq_getElem_cons h1,List.drop_eq_getElem_cons h2,?_,?_,ints_at h1,ints_at h2⟩
  · rw [List.drop_eq_getElem_cons (by simp;omega)];simp
  · rw [List.drop_eq_getElem_cons (by simp;omega)];simp
theorem l_cmpI (a b : List Int) (ha : a.length < 2000000) (hb : b.length < 2000000) : ∀ i : Nat,(i ≤ min a.length b.length) → ∀ s,normE 2 (some [0,1,11,12]) s = ⟨[(0,.lst false 0 (ints a)),(1,.lst false 0 (ints b)),(11,.int .i64 (if (b.length : Int) < a.length then b.length else a.length)),(12,.int .i64 i)],[],2⟩ →
 oc.loop 152 2 s = some (if (a.take (min a.length b.length)).drop i = (b.take (min a.length b.length)).drop i then (.exit 0,⟨[(0,.lst false 0 (ints a)),(1,.lst false 0 (ints b))],[],2⟩) else (.ret,⟨[(0,.lst false 0 (ints a)),(1,.lst false 0 (ints b)),(4,.int .i64 (cmpL (a.drop i) (b.drop i)))],[],2⟩)) := by
 refine loop_ind (σ:=Nat) (fun i => min a.length b.length - i) _ (fun i => ⟨[(0,.lst false 0 (ints a)),(1,.lst false 0 (ints b)),(11,.int .i64 (if (b.length : Int) < a.length then b.length else a.length)),(12,.int .i64 i)],[],2⟩) _ ?_
 intro i hi ih s hs
 refine loop_s cd152 rfl rfl hs ?_
 have hmin : (if (b.length : Int) < a.length then (b.length : Int) else a.length) = (min a.length b.length : Nat) := by split <;> omega
 refine wa_ (wc_region (w_ (b_ (h:=wo_nil (e_ (h:=aft_normal (wa_ (?_))))))))
 refine c_ (h1:=?_) (h2:=?_)
 rotate_right 1
 focus
  intro c1
  first
  | exact dn c1
  | (
   have d1 := c1;try simp at d1
   have c9 := c1;rw [hmin] at c9;simp at c9;have hi2 : i = min a.length b.length := (by omega)
   refine wc_exit (?_)
   )
 rotate_right 1
 focus
  intro c1
  first
  | exact dn c1
  | (
   have d1 := c1;try simp at d1
   have c9 := c1;rw [hmin] at c9;simp at c9;have hw := wrap_succ (i:=i) (by omega);obtain ⟨x,y,e1,e2,e3,e4,g1,g2⟩ := cut2 (a:=a) (b:=b) (i:=i) (by omega)
   refine wc_skip (?_)
   )
 all_goals first
 | refine aft_exit ?_
 | (
  refine aft_normal ?_
  refine wa_ (wc_block (wa_ (wc_region (w_ (m_ (h:=w_ (a_ (h:=wo_nil (e_ (h:=aft_normal (wa_ (wc_draw (y_ (m_ (h:=ax_ (h:=y_ (m_ (h:=ax_ (h:=?_)))))))))))))))))))
  refine y_ (x_ (h:=ax_ (h:=y_ (l_ (h:=ax_ (h:=y_ (m_ (h:=ax_ (h:=y_ (m_ (h:=ax_ (h:=y_ (x_ (h:=ax_ (h:=y_ (l_ (h:=ax_ (h:=y_ (ca (hc:=e_cmp _ _) (h:=ax_ (h:=y_ (a_ (h:=ax_ (h:=wo_nil (ed (h:=aft_normal (wa_ (wc_region (?_)))))))))))))))))))))))))))))
  refine w_ (m_ (h:=w_ (bE (h:=wo_nil (e_ (h:=aft_normal (?_)))))))
  refine c_ (h1:=?_) (h2:=?_)
  rotate_right 1
  focus
   intro c2
   first
   | exact dn c2
   | (
    have d2 := c2;try simp at d2
    refine wc_skip (?_)
    )
  rotate_right 1
  focus
   intro c2
   first
   | exact dn c2
   | (
    have d2 := c2;try simp at d2
    refine wa_ (wc_region (w_ (m_ (h:=w_ (a_ (h:=wo_nil (e_ (h:=aft_normal (wc_ret (?_))))))))))
    )
  all_goals first | refine blk_normal ?_ | refine blk_ret ?_
  all_goals first
  | refine aft_ret ?_
  | (
   refine aft_normal ?_
   refine wc_region (w_ (b_ (h:=w_ (m_ (h:=wo_nil (e_ (h:=?_)))))))
   )
  )
 all_goals first
 | (refine (ih (i + 1) (by omega) ?_ _ ?_).trans ?_;(focus (first | omega | (simp;done) | (simp;omega)));(focus (simp [normE,hw];done));(focus (simp only [cmpI] at d2;have hxy : x = y := (by grind);rw [e1,e2,e3,e4];simp [hxy,cmpL])))
 | (apply end_leaf (ex:=Ext.ret) 2 (some [0,1,4]);(focus (simp [normE];rfl));(focus (rw [e1,e2,e3,e4];simp only [cmpI] at d2;have hxy : x ≠ y := (by grind);simp only [List.cons.injEq,hxy,false_and,if_false,cmpL,cmpI];grind)))
 | (apply end_leaf (ex:=(Ext.exit 0)) 2 (some [0,1,4]);(focus (simp [normE];rfl));(focus (rw [if_pos (by rw [List.drop_eq_nil_of_le (by simp;omega),List.drop_eq_nil_of_le (by simp;omega)])])))
theorem e_cmpRI (a b : List Int) (ha : a.length < 2000000) (hb : b.length < 2000000) : oc.call 152 [.lst false 0 (ints a),.lst false 0 (ints b)] = some (.int .i64 (cmpL a b),[]) := by
 refine fun_s rfl cd152 rfl rfl rfl (by simp;rfl) (by simp;rfl) ?_
 refine wa_ (wc_region (w_ (a_ (h:=wo_nil (e_ (h:=aft_normal (wa_ (wa_ (wc_region (w_ (m_ (h:=w_ (le (h:=w_ (m_ (h:=w_ (le (h:=?_))))))))))))))))))
 refine w_ (mi (h:=w_ (m_ (h:=wo_nil (e_ (h:=aft_normal (wc_block (?_))))))))
 refine wc_loopI (l_cmpI a b ha hb 0 (by omega) _ (by simp [normE])) ?_ ?_
 rotate_right 1
 focus
  intro c1
  skip
 rotate_right 1
 focus
  intro c1
  skip
 all_goals first | refine blk_ret ?_ | refine blk_exit ?_
 all_goals first
 | refine aft_ret ?_
 | (
  refine aft_normal ?_
  refine wa_ (wc_region (w_ (m_ (h:=w_ (le (h:=w_ (m_ (h:=w_ (le (h:=w_ (ca (hc:=e_cmpi _ _) (h:=w_ (a_ (h:=wo_nil (e_ (h:=aft_normal (wc_ret (?_))))))))))))))))))
  )
 all_goals (refine fin_ (hr:=(res_tmp rfl res_nil)) (h:=?_);(focus (first | (have h3 := cmpL_pre (a:=a) (b:=b) (by simpa using c1);simp [h3];done) | simp)))
theorem l_cmpS (a b : List Int) (ha : a.length < 2000000) (hb : b.length < 2000000) : ∀ i : Nat,(i ≤ min a.length b.length) → ∀ s,normE 2 (some [0,1,5]) s = ⟨[(0,.lst false 0 (ints a)),(1,.lst false 0 (ints b)),(5,.int .i64 i)],[],2⟩ →
 oc.loop 147 2 s = some (if (a.take (min a.length b.length)).drop i = (b.take (min a.length b.length)).drop i then (.exit 0,⟨[(0,.lst false 0 (ints a)),(1,.lst false 0 (ints b))],[],2⟩) else (.ret,⟨[(0,.lst false 0 (ints a)),(1,.lst false 0 (ints b)),(4,.int .i64 (cmpL (a.drop i) (b.drop i)))],[],2⟩)) := by
 refine loop_ind (σ:=Nat) (fun i => min a.length b.length - i) _ (fun i => ⟨[(0,.lst false 0 (ints a)),(1,.lst false 0 (ints b)),(5,.int .i64 i)],[],2⟩) _ ?_
 intro i hi ih s hs
 refine loop_s cd147 rfl rfl hs ?_
 refine wa_ (wa_ (wc_region (w_ (m_ (h:=w_ (m_ (h:=w_ (le (h:=w_ (b_ (h:=w_ (m_ (h:=?_)))))))))))))
 refine gw_ (h1:=?_) (h2:=?_)
 rotate_right 1
 focus
  intro c1
  first
  | exact dn c1
  | (
   have d1 := c1;try simp at d1
   refine go_ (h:=go_ (h:=go_ (h:=go_ (h:=?_))))
   )
 rotate_right 1
 focus
  intro c1
  first
  | exact dn c1
  | (
   have d1 := c1;try simp at d1
   refine g_ (h:=w_ (m_ (h:=g_ (h:=w_ (m_ (h:=g_ (h:=w_ (le (h:=g_ (h:=w_ (b_ (h:=?_))))))))))))
   )
 all_goals
  refine w_ (pk (h:=wo_nil (e_ (h:=?_))))
 all_goals first
 | (
  refine aft_normal ?_
  refine c_ (h1:=?_) (h2:=?_)
  rotate_right 1
  focus
   intro c2
   first
   | exact dn c2
   | (
    have d2 := c2;try simp at d2
    have hi2 : i = min a.length b.length := (by omega)
    refine wc_exit (?_)
    )
  rotate_right 1
  focus
   intro c2
   first
   | exact dn c2
   | (
    have d2 := c2;try simp at d2
    have hw := wrap_succ (i:=i) (by omega);obtain ⟨x,y,e1,e2,e3,e4,g1,g2⟩ := cut2 (a:=a) (b:=b) (i:=i) (by omega)
    refine wc_skip (?_)
    )
  )
 all_goals first
 | refine aft_exit ?_
 | (
  refine aft_normal ?_
  refine wa_ (wc_block (wa_ (wa_ (wc_draw (y_ (m_ (h:=ax_ (h:=y_ (m_ (h:=ax_ (h:=y_ (x_ (h:=ax_ (h:=y_ (l_ (h:=ax_ (h:=y_ (m_ (h:=ax_ (h:=y_ (m_ (h:=ax_ (h:=y_ (x_ (h:=ax_ (h:=?_))))))))))))))))))))))))))
  refine y_ (l_ (h:=ax_ (h:=y_ (b_ (h:=ax_ (h:=wo_nil (ed (h:=aft_normal (?_)))))))))
  refine c_ (h1:=?_) (h2:=?_)
  rotate_right 1
  focus
   intro c3
   first
   | exact dn c3
   | (
    have d3 := c3;try simp at d3
    refine wc_skip (?_)
    )
  rotate_right 1
  focus
   intro c3
   first
   | exact dn c3
   | (
    have d3 := c3;try simp at d3
    refine wa_ (wc_region (w_ (a_ (h:=wo_nil (e_ (h:=aft_normal (wc_ret (?_))))))))
    )
  all_goals first
  | refine aft_ret ?_
  | (
   refine aft_normal ?_
   refine wa_ (wc_draw (y_ (m_ (h:=ax_ (h:=y_ (m_ (h:=ax_ (h:=y_ (x_ (h:=ax_ (h:=y_ (l_ (h:=ax_ (h:=y_ (m_ (h:=ax_ (h:=y_ (m_ (h:=ax_ (h:=y_ (x_ (h:=ax_ (h:=y_ (l_ (h:=ax_ (h:=y_ (b_ (h:=ax_ (h:=wo_nil (ed (h:=?_)))))))))))))))))))))))))))))))
   refine aft_normal (?_)
   refine c_ (h1:=?_) (h2:=?_)
   rotate_right 1
   focus
    intro c4
    first
    | exact dn c4
    | (
     have d4 := c4;try simp at d4
     refine wc_skip (?_)
     )
   rotate_right 1
   focus
    intro c4
    first
    | exact dn c4
    | (
     have d4 := c4;try simp at d4
     refine wa_ (wc_region (w_ (a_ (h:=wo_nil (e_ (h:=aft_normal (wc_ret (?_))))))))
     )
   )
  all_goals first | refine blk_normal ?_ | refine blk_ret ?_
  all_goals first
  | refine aft_ret ?_
  | (
   refine aft_normal ?_
   refine wc_region (w_ (m_ (h:=w_ (b_ (h:=w_ (a_ (h:=wo_nil (e_ (h:=?_)))))))))
   )
  )
 all_goals first
 | (refine (ih (i + 1) (by omega) ?_ _ ?_).trans ?_;(focus (first | omega | (simp;done) | (simp;omega)));(focus (simp [normE,hw];done));(focus (have hxy : x = y := (by omega);rw [e1,e2,e3,e4];simp [hxy,cmpL])))
 | (apply end_leaf (ex:=Ext.ret) 2 (some [0,1,4]);(focus (simp [normE];rfl));(focus (have hxy : x ≠ y := (by omega);rw [e1,e2,e3,e4];simp only [List.cons.injEq,hxy,false_and,if_false,cmpL];rw [if_pos (by omega)])))
 | (apply end_leaf (ex:=Ext.ret) 2 (some [0,1,4]);(focus (simp [normE];rfl));(focus (have hxy : x ≠ y := (by omega);rw [e1,e2,e3,e4];simp only [List.cons.injEq,hxy,false_and,if_false,cmpL];rw [if_neg (by omega),if_pos (by omega)])))
 | (apply end_leaf (ex:=(Ext.exit 0)) 2 (some [0,1,4]);(focus (simp [normE];rfl));(focus (rw [if_pos (by rw [List.drop_eq_nil_of_le (by simp;omega),List.drop_eq_nil_of_le (by simp;omega)])])))
theorem e_cmpRS (a b : List Int) (ha : a.length < 2000000) (hb : b.length < 2000000) : oc.call 147 [.lst false 0 (ints a),.lst false 0 (ints b)] = some (.int .i64 (cmpL a b),[]) := by
 refine fun_s rfl cd147 rfl rfl rfl (by simp;rfl) (by simp;rfl) ?_
 refine wa_ (wc_region (w_ (a_ (h:=wo_nil (e_ (h:=aft_normal (wa_ (wa_ (wc_region (w_ (a_ (h:=wo_nil (e_ (h:=aft_normal (wc_block (?_))))))))))))))))
 refine wc_loopI (l_cmpS a b ha hb 0 (by omega) _ (by simp [normE])) ?_ ?_
 rotate_right 1
 focus
  intro c1
  first
  | exact dn c1
  | (
   have d1 := c1;try simp at d1
   skip
   )
 rotate_right 1
 focus
  intro c1
  first
  | exact dn c1
  | (
   have d1 := c1;try simp at d1
   skip
   )
 all_goals first | refine blk_ret ?_ | refine blk_exit ?_
 all_goals first
 | refine aft_ret ?_
 | (
  refine aft_normal ?_
  refine wa_ (wa_ (wc_region (w_ (m_ (h:=w_ (le (h:=w_ (m_ (h:=w_ (le (h:=w_ (b_ (h:=wo_nil (e_ (h:=aft_normal (?_))))))))))))))))
  refine c_ (h1:=?_) (h2:=?_)
  rotate_right 1
  focus
   intro c2
   first
   | exact dn c2
   | (
    have d2 := c2;try simp at d2
    refine wc_skip (?_)
    )
  rotate_right 1
  focus
   intro c2
   first
   | exact dn c2
   | (
    have d2 := c2;try simp at d2
    refine wa_ (wc_region (w_ (a_ (h:=wo_nil (e_ (h:=aft_normal (wc_ret (?_))))))))
    )
  all_goals first
  | refine aft_ret ?_
  | (
   refine aft_normal ?_
   refine wa_ (wa_ (wc_region (w_ (m_ (h:=w_ (le (h:=w_ (m_ (h:=w_ (le (h:=w_ (b_ (h:=wo_nil (e_ (h:=aft_normal (?_))))))))))))))))
   refine c_ (h1:=?_) (h2:=?_)
   rotate_right 1
   focus
    intro c3
    first
    | exact dn c3
    | (
     have d3 := c3;try simp at d3
     refine wc_skip (?_)
     )
   rotate_right 1
   focus
    intro c3
    first
    | exact dn c3
    | (
     have d3 := c3;try simp at d3
     refine wa_ (wc_region (w_ (a_ (h:=wo_nil (e_ (h:=aft_normal (wc_ret (?_))))))))
     )
   all_goals first
   | refine aft_ret ?_
   | (
    refine aft_normal ?_
    refine wa_ (wc_region (w_ (a_ (h:=wo_nil (e_ (h:=aft_normal (wc_ret (?_))))))))
    )
   )
  )
 all_goals (refine fin_ (hr:=(res_tmp rfl res_nil)) (h:=?_);(focus (first | (have h3 := cmpL_pre (a:=a) (b:=b) (by simpa using c1);simp [h3,cmpI];first | omega | grind) | (simp;done))))
end Go.Proofs.Ytgkbmiaimjpbfaa.Ev
namespace Go.Proofs.Ytgkbmiaimjpbfaa.Ev
set_option linter.unusedSectionVars false
section
variable {α : Type} [Inhabited α]
def nth (l : List α) (i : Nat) : α := l[i]?.getD default
theorem nth_get {l : List α} {i : Nat} (h : i < l.length) : l[i]? = some (nth l i) := by
  unfold nth;rw [List.getElem?_eq_getElem h];rfl
theorem nth_set {l : List α} {i k : Nat} {x : α} (h : i < l.length) : nth (l.set i x) k = if k = i then x else nth l k := by
  unfold nth
  by_cases e : k = i
  · subst e;rw [if_pos rfl,List.getElem?_set_self h];rfl
  · rw [if_neg e,List.getElem?_set_ne (Ne.symm e)]
def swp (l : List α) (i j : Nat) : List α := (l.set i (nth l j)).set j (nth l i)
@[simp] theorem swp_len {l : List α} {i j : Nat} : (swp l i j).length = l.length := by simp [swp]
theorem swp_nth {l : List α} {i j k : Nat} (hi : i < l.length) (hj : j < l.length) : nth (swp l i j) k = if k = j then nth l i else if k = i then nth l j else nth l k := by
  unfold swp
  rw [nth_set (by simpa using hj),nth_set hi]
theorem swp_perm {l : List α} {i j : Nat} (hi : i < l.length) (hj : j < l.length) : (swp l i j).Perm l := by
  have h : ((l.set i l[j]).set j l[i]).Perm l := List.set_set_perm hi hj
  have e1 : nth l j = l[j] := by unfold nth;rw [List.getElem?_eq_getElem hj];rfl
  have e2 : nth l i = l[i] := by unfold nth;rw [List.getElem?_eq_getElem hi];rfl
  unfold swp;rw [e1,e2];exact h
structure Wit (a b : Nat) (l r : List α) : Prop where
  perm : r.Perm l
  out : ∀ k,k < a ∨ b ≤ k → nth r k = nth l k
  mem : ∀ k,a ≤ k → k < b → ∃ i,a ≤ i ∧ i < b ∧ nth r k = nth l i
theorem Wit.len {a b : Nat} {l r : List α} (h : Wit a b l r) : r.length = l.length := h.perm.length_eq
theorem Wit.refl (a b : Nat) (l : List α) : Wit a b l l := ⟨.refl _,fun _ _ => rfl,fun k h1 h2 => ⟨k,h1,h2,rfl⟩⟩
theorem Wit.trans {a b : Nat} {l m r : List α} (h1 : Wit a b l m) (h2 : Wit a b m r) : Wit a b l r :=
  ⟨h2.perm.trans h1.perm,fun k hk => (h2.out k hk).trans (h1.out k hk),fun k ha hb => by
    obtain ⟨i,hi1,hi2,e⟩ := h2.mem k ha hb
    obtain ⟨j,hj1,hj2,e2⟩ := h1.mem i hi1 hi2
    exact ⟨j,hj1,hj2,e.trans e2⟩⟩
theorem Wit.wide {a b a' b' : Nat} {l r : List α} (h : Wit a b l r) (ha : a' ≤ a) (hb : b ≤ b') : Wit a' b' l r :=
  ⟨h.perm,fun k hk => h.out k (by omega),fun k h1 h2 => by
    by_cases hk : a ≤ k ∧ k < b
    · obtain ⟨i,i1,i2,e⟩ := h.mem k hk.1 hk.2
      exact ⟨i,by omega,by omega,e⟩
    · exact ⟨k,h1,h2,h.out k (by omega)⟩⟩
theorem swp_wit {l : List α} {a b i j : Nat} (hb : b ≤ l.length) (hi : a ≤ i) (hi2 : i < b) (hj : a ≤ j) (hj2 : j < b) : Wit a b l (swp l i j) := by
  refine ⟨swp_perm (by omega) (by omega),fun k hk => ?_,fun k h1 h2 => ?_⟩
  · rw [swp_nth (by omega) (by omega),if_neg (by omega),if_neg (by omega)]
  · rw [swp_nth (by omega) (by omega)]
    split
    · exact ⟨i,hi,hi2,rfl⟩
    · split
      · exact ⟨j,hj,hj2,rfl⟩
      · exact ⟨k,h1,h2,rfl⟩
structure Ordr (lt : α → α → Bool) : Prop where
  asym : ∀ {x y},lt x y = true → lt y x = false
  ntr : ∀ {x y z},lt y x = false → lt z y = false → lt z x = false
def Srt (lt : α → α → Bool) (a b : Nat) (l : List α) : Prop := ∀ i j,a ≤ i → i ≤ j → j < b → lt (nth l j) (nth l i) = false
variable {lt : α → α → Bool}
theorem Ordr.rfl' (O : Ordr lt) (x : α) : lt x x = false := by
  cases h : lt x x
  · rfl
  · have := O.asym h;rw [h] at this;cases this
theorem Srt.sub {a b a' b' : Nat} {l : List α} (h : Srt lt a b l) (ha : a ≤ a') (hb : b' ≤ b) : Srt lt a' b' l := fun i j h1 h2 h3 => h i j (by omega) h2 (by omega)
theorem Srt.one (O : Ordr lt) {a b : Nat} {l : List α} (h : b ≤ a + 1) : Srt lt a b l := fun i j h1 h2 h3 => by
  obtain rfl : i = j := by omega
  exact O.rfl' _
theorem Srt.out {a b c d : Nat} {l r : List α} (h : Srt lt c d l) (w : Wit a b l r) (hd : d ≤ a ∨ b ≤ c) : Srt lt c d r := fun i j h1 h2 h3 => by
  rw [w.out i (by omega),w.out j (by omega)]
  exact h i j h1 h2 h3
def bub (lt : α → α → Bool) (a : Nat) : Nat → List α → List α
  | 0,l => l
  | j + 1,l => if a < j + 1 ∧ lt (nth l (j + 1)) (nth l j) = true then bub lt a j (swp l (j + 1) j) else l
theorem bub_wit {a b : Nat} : ∀ {j : Nat} {l : List α},b ≤ l.length → a ≤ j → j < b → Wit a b l (bub lt a j l)
  | 0,l,_,_,_ => Wit.refl ..
  | j + 1,l,hb,ha,hj => by
    unfold bub
    split
    · rename_i h
      have w := swp_wit (l:=l) (a:=a) (b:=b) (i:=j + 1) (j:=j) hb ha hj (by omega) (by omega)
      exact w.trans (bub_wit (by simpa using hb) (by omega) (by omega))
    · exact Wit.refl ..
theorem bub_srt (O : Ordr lt) {a b : Nat} : ∀ {j : Nat} {l : List α},b ≤ l.length → a ≤ j → j < b → (∀ i k,a ≤ i → i ≤ k → k < b → i ≠ j → k ≠ j → lt (nth l k) (nth l i) = false) → (∀ k,j ≤ k → k < b → lt (nth l k) (nth l j) = false) → Srt lt a b (bub lt a j l)
  | 0,l,hb,ha,hj,h1,h2 => by
    obtain rfl : a = 0 := by omega
    show Srt lt 0 b l
    intro i k hi hik hk
    by_cases e : i = 0
    · subst e;exact h2 k (by omega) hk
    · exact h1 i k hi hik hk e (by omega)
  | j + 1,l,hb,ha,hj,h1,h2 => by
    unfold bub
    split
    · rename_i h
      have hw : ∀ k,nth (swp l (j + 1) j) k = _ := fun k => swp_nth (l:=l) (i:=j + 1) (j:=j) (by omega) (by omega)
      refine bub_srt O (by simpa using hb) (by omega) (by omega) (fun i k hi hik hk e1 e2 => ?_) (fun k hjk hk => ?_)
      · rw [hw,hw,if_neg e1,if_neg e2]
        by_cases ek : k = j + 1
        · subst ek
          rw [if_pos rfl]
          by_cases ei : i = j + 1
          · subst ei;rw [if_pos rfl];exact O.rfl' _
          · rw [if_neg ei];exact h1 i j hi (by omega) (by omega) ei (by omega)
        · rw [if_neg ek]
          by_cases ei : i = j + 1
          · subst ei;rw [if_pos rfl];exact h1 j k (by omega) (by omega) hk (by omega) ek
          · rw [if_neg ei];exact h1 i k hi hik hk ei ek
      · rw [hw,hw,if_pos rfl]
        by_cases ek : k = j
        · subst ek;rw [if_pos rfl];exact O.rfl' _
        · rw [if_neg ek]
          by_cases ek2 : k = j + 1
          · subst ek2;rw [if_pos rfl];exact O.asym h.2
          · rw [if_neg ek2];exact h2 k (by omega) hk
    · rename_i h
      intro i k hi hik hk
      have hj1 : ∀ i,a ≤ i → i ≤ j → lt (nth l (j + 1)) (nth l i) = false := fun i hi hij => by
        have hn : lt (nth l (j + 1)) (nth l j) = false := by
          cases hc : lt (nth l (j + 1)) (nth l j)
          · rfl
          · exact absurd ⟨by omega,hc⟩ h
        by_cases e : i = j
        · subst e;exact hn
        · exact O.ntr (h1 i j hi (by omega) (by omega) (by omega) (by omega)) hn
      by_cases ek : k = j + 1
      · subst ek
        by_cases ei : i = j + 1
        · subst ei;exact O.rfl' _
        · exact hj1 i hi (by omega)
      · by_cases ei : i = j + 1
        · subst ei;exact h2 k (by omega) hk
        · exact h1 i k hi hik hk ei ek
def insL (lt : α → α → Bool) (a : Nat) : Nat → Nat → List α → List α
  | 0,_,l => l
  | n + 1,i,l => insL lt a n (i + 1) (bub lt a i l)
theorem insL_ok (O : Ordr lt) {a b : Nat} : ∀ {n i : Nat} {l : List α},i + n = b → a < i → b ≤ l.length → Srt lt a i l → Wit a b l (insL lt a n i l) ∧ Srt lt a b (insL lt a n i l)
  | 0,i,l,hn,ha,hb,hs => by
    obtain rfl : i = b := by omega
    exact ⟨Wit.refl ..,hs⟩
  | n + 1,i,l,hn,ha,hb,hs => by
    unfold insL
    have w := bub_wit (lt:=lt) (a:=a) (b:=i + 1) (j:=i) (l:=l) (by omega) (by omega) (by omega)
    have hs2 := bub_srt O (a:=a) (b:=i + 1) (j:=i) (l:=l) (by omega) (by omega) (by omega) (fun p q h1 h2 h3 e1 e2 => hs p q h1 h2 (by omega)) (fun k h1 h2 => by
      obtain rfl : k = i := by omega
      exact O.rfl' _)
    have hr := insL_ok O (a:=a) (b:=b) (n:=n) (i:=i + 1) (l:=bub lt a i l) (by omega) (by omega) (by rw [w.len];exact hb) hs2
    exact ⟨(w.wide (by omega) (by omega)).trans hr.1,hr.2⟩
def ins (lt : α → α → Bool) (a b : Nat) (l : List α) : List α := insL lt a (b - (a + 1)) (a + 1) l
theorem ins_ok (O : Ordr lt) {a b : Nat} {l : List α} (hb : b ≤ l.length) : Wit a b l (ins lt a b l) ∧ Srt lt a b (ins lt a b l) := by
  by_cases h : a + 1 ≤ b
  · exact insL_ok O (by omega) (by omega) hb (Srt.one O (by omega))
  · unfold ins
    rw [show b - (a + 1) = 0 by omega]
    exact ⟨Wit.refl ..,Srt.one O (by omega)⟩
def hlf (p : Nat → Bool) (i j : Nat) : Nat :=
  if h : i < j then if p ((i + j) / 2) = true then hlf p ((i + j) / 2 + 1) j else hlf p i ((i + j) / 2) else i
termination_by j - i
decreasing_by all_goals omega
theorem hlf_ok {p : Nat → Bool} : ∀ (i j : Nat),i ≤ j → i ≤ hlf p i j ∧ hlf p i j ≤ j ∧ ((∀ x y,i ≤ x → x ≤ y → y < j → p y = true → p x = true) → (∀ x,i ≤ x → x < hlf p i j → p x = true) ∧ ∀ x,hlf p i j ≤ x → x < j → p x = false) := by
  intro i j hij
  induction hd : j - i using Nat.strongRecOn generalizing i j with
  | _ d ih =>
    subst hd
    unfold hlf
    split
    · rename_i h
      split
      · rename_i hp
        obtain ⟨h1,h2,h3⟩ := ih (j - ((i + j) / 2 + 1)) (by omega) ((i + j) / 2 + 1) j (by omega) rfl
        refine ⟨by omega,h2,fun hm => ?_⟩
        obtain ⟨h4,h5⟩ := h3 (fun x y a b c d => hm x y (by omega) b c d)
        refine ⟨fun x a b => ?_,h5⟩
        by_cases e : (i + j) / 2 + 1 ≤ x
        · exact h4 x e b
        · exact hm x ((i + j) / 2) a (by omega) (by omega) hp
      · rename_i hp
        obtain ⟨h1,h2,h3⟩ := ih ((i + j) / 2 - i) (by omega) i ((i + j) / 2) (by omega) rfl
        refine ⟨h1,by omega,fun hm => ?_⟩
        obtain ⟨h4,h5⟩ := h3 (fun x y a b c d => hm x y a b (by omega) d)
        refine ⟨h4,fun x a b => ?_⟩
        by_cases e : x < (i + j) / 2
        · exact h5 x a e
        · cases hx : p x
          · rfl
          · exact absurd (hm ((i + j) / 2) x (by omega) (by omega) b hx) hp
    · refine ⟨by omega,by omega,fun hm => ⟨fun x a b => by omega,fun x a b => by omega⟩⟩
def mvU : Nat → Nat → List α → List α
  | 0,_,l => l
  | n + 1,k,l => mvU n (k + 1) (swp l k (k + 1))
def mvD : Nat → Nat → List α → List α
  | 0,_,l => l
  | n + 1,k,l => mvD n (k - 1) (swp l k (k - 1))
theorem mvU_ok : ∀ {n k : Nat} {l : List α},k + n < l.length → Wit k (k + n + 1) l (mvU n k l) ∧ (∀ i,k ≤ i → i < k + n → nth (mvU n k l) i = nth l (i + 1)) ∧ nth (mvU n k l) (k + n) = nth l k
  | 0,k,l,_ => ⟨Wit.refl ..,fun i _ _ => by omega,rfl⟩
  | n + 1,k,l,h => by
    have w := swp_wit (l:=l) (a:=k) (b:=k + 2) (i:=k) (j:=k + 1) (by omega) (by omega) (by omega) (by omega) (by omega)
    have hw : ∀ q,nth (swp l k (k + 1)) q = _ := fun q => swp_nth (l:=l) (i:=k) (j:=k + 1) (by omega) (by omega)
    obtain ⟨h1,h2,h3⟩ := mvU_ok (n:=n) (k:=k + 1) (l:=swp l k (k + 1)) (by simp;omega)
    show Wit _ _ _ (mvU n (k + 1) (swp l k (k + 1))) ∧ (∀ i,_ → _ → nth (mvU n (k + 1) (swp l k (k + 1))) i = _) ∧ nth (mvU n (k + 1) (swp l k (k + 1))) _ = _
    refine ⟨(w.wide (by omega) (by omega)).trans (h1.wide (by omega) (by omega)),fun i a b => ?_,?_⟩
    · by_cases e : i = k
      · subst e
        rw [h1.out i (by omega),hw,if_neg (by omega),if_pos rfl]
      · rw [h2 i (by omega) (by omega),hw,if_neg (by omega),if_neg (by omega)]
    · rw [show k + (n + 1) = k + 1 + n by omega,h3,hw,if_pos rfl]
theorem mvD_ok : ∀ {n k : Nat} {l : List α},n ≤ k → k < l.length → Wit (k - n) (k + 1) l (mvD n k l) ∧ (∀ i,k - n < i → i ≤ k → nth (mvD n k l) i = nth l (i - 1)) ∧ nth (mvD n k l) (k - n) = nth l k
  | 0,k,l,_,_ => ⟨Wit.refl ..,fun i _ _ => by omega,rfl⟩
  | n + 1,k,l,hn,h => by
    have w := swp_wit (l:=l) (a:=k - 1) (b:=k + 1) (i:=k) (j:=k - 1) (by omega) (by omega) (by omega) (by omega) (by omega)
    have hw : ∀ q,nth (swp l k (k - 1)) q = _ := fun q => swp_nth (l:=l) (i:=k) (j:=k - 1) (by omega) (by omega)
    obtain ⟨h1,h2,h3⟩ := mvD_ok (n:=n) (k:=k - 1) (l:=swp l k (k - 1)) (by omega) (by simp;omega)
    show Wit _ _ _ (mvD n (k - 1) (swp l k (k - 1))) ∧ (∀ i,_ → _ → nth (mvD n (k - 1) (swp l k (k - 1))) i = _) ∧ nth (mvD n (k - 1) (swp l k (k - 1))) _ = _
    refine ⟨(w.wide (by omega) (by omega)).trans (h1.wide (by omega) (by omega)),fun i a b => ?_,?_⟩
    · by_cases e : i = k
      · subst e
        rw [h1.out i (by omega),hw,if_neg (by omega),if_pos rfl]
      · rw [h2 i (by omega) (by omega),hw,if_neg (by omega),if_neg (by omega)]
    · rw [show k - (n + 1) = k - 1 - n by omega,h3,hw,if_pos rfl]
def swR : Nat → Nat → Nat → List α → List α
  | 0,_,_,l => l
  | n + 1,a,b,l => swR n (a + 1) (b + 1) (swp l a b)
theorem swR_ok : ∀ {n a b : Nat} {l : List α},a + n ≤ b → b + n ≤ l.length → (swR n a b l).Perm l ∧ ∀ k,nth (swR n a b l) k = if a ≤ k ∧ k < a + n then nth l (k - a + b) else if b ≤ k ∧ k < b + n then nth l (k - b + a) else nth l k
  | 0,a,b,l,_,_ => ⟨.refl _,fun k => by rw [if_neg (by omega),if_neg (by omega)];rfl⟩
  | n + 1,a,b,l,h1,h2 => by
    obtain ⟨p,h⟩ := swR_ok (n:=n) (a:=a + 1) (b:=b + 1) (l:=swp l a b) (by omega) (by simp;omega)
    have hw : ∀ q,nth (swp l a b) q = _ := fun q => swp_nth (l:=l) (i:=a) (j:=b) (by omega) (by omega)
    refine ⟨p.trans (swp_perm (by omega) (by omega)),fun k => ?_⟩
    show nth (swR n (a + 1) (b + 1) (swp l a b)) k = _
    rw [h k]
    by_cases c1 : a ≤ k ∧ k < a + (n + 1)
    · rw [if_pos c1]
      by_cases e : k = a
      · subst e
        rw [if_neg (by omega),if_neg (by omega),hw,if_neg (by omega),if_pos rfl]
        congr 1;omega
      · rw [if_pos (by omega),hw,if_neg (by omega),if_neg (by omega)]
        congr 1;omega
    · rw [if_neg c1,if_neg (by omega)]
      by_cases c2 : b ≤ k ∧ k < b + (n + 1)
      · rw [if_pos c2]
        by_cases e : k = b
        · subst e
          rw [if_neg (by omega),hw,if_pos rfl]
          congr 1;omega
        · rw [if_pos (by omega),hw,if_neg (by omega),if_neg (by omega)]
          congr 1;omega
      · rw [if_neg c2,if_neg (by omega),hw,if_neg (by omega),if_neg (by omega)]
def rot (m i j : Nat) (l : List α) : List α :=
  if i = 0 ∨ j = 0 then l else if i = j then swR i (m - i) m l else if j < i then rot m (i - j) j (swR j (m - i) m l) else rot m i (j - i) (swR i (m - i) (m + j - i) l)
termination_by i + j
decreasing_by all_goals omega
theorem rot_ok {m : Nat} : ∀ (i j : Nat) (l : List α),i ≤ m → m + j ≤ l.length → (rot m i j l).Perm l ∧ ∀ k,nth (rot m i j l) k = if m - i ≤ k ∧ k < m - i + j then nth l (k + i) else if m - i + j ≤ k ∧ k < m + j then nth l (k - j) else nth l k := by
  intro i j
  induction hd : i + j using Nat.strongRecOn generalizing i j with
  | _ d ih =>
    subst hd
    intro l hi hj
    unfold rot
    split
    · rename_i h0
      refine ⟨.refl _,fun k => ?_⟩
      by_cases c1 : m - i ≤ k ∧ k < m - i + j
      · rw [if_pos c1];congr 1;omega
      · rw [if_neg c1]
        by_cases c2 : m - i + j ≤ k ∧ k < m + j
        · rw [if_pos c2];congr 1;omega
        · rw [if_neg c2]
    · rename_i h0
      split
      · rename_i e
        subst e
        obtain ⟨p,h⟩ := swR_ok (n:=i) (a:=m - i) (b:=m) (l:=l) (by omega) (by omega)
        refine ⟨p,fun k => ?_⟩
        rw [h k]
        by_cases c1 : m - i ≤ k ∧ k < m - i + i
        · rw [if_pos c1,if_pos c1];congr 1;omega
        · rw [if_neg c1,if_neg c1]
          by_cases c2 : m ≤ k ∧ k < m + i
          · rw [if_pos c2,if_pos (by omega)];congr 1;omega
          · rw [if_neg c2,if_neg (by omega)]
      · rename_i e
        split
        · rename_i hlt
          obtain ⟨p,h⟩ := swR_ok (n:=j) (a:=m - i) (b:=m) (l:=l) (by omega) (by omega)
          obtain ⟨p2,h2⟩ := ih (i - j + j) (by omega) (i - j) j rfl (swR j (m - i) m l) (by omega) (by rw [p.length_eq];omega)
          refine ⟨p2.trans p,fun k => ?_⟩
          rw [h2 k]
          by_cases c1 : m - i ≤ k ∧ k < m - i + j
          · rw [if_pos c1,if_neg (by omega),if_neg (by omega),h k,if_pos c1];congr 1;omega
          · rw [if_neg c1]
            by_cases c2 : m - i + j ≤ k ∧ k < m + j
            · rw [if_pos c2]
              by_cases c3 : m - (i - j) ≤ k ∧ k < m - (i - j) + j
              · rw [if_pos c3,h,if_neg (by omega),if_pos (by omega)];congr 1;omega
              · rw [if_neg c3,if_pos (by omega),h,if_neg (by omega),if_neg (by omega)]
            · rw [if_neg c2,if_neg (by omega),if_neg (by omega),h,if_neg (by omega),if_neg (by omega)]
        · rename_i hlt
          obtain ⟨p,h⟩ := swR_ok (n:=i) (a:=m - i) (b:=m + j - i) (l:=l) (by omega) (by omega)
          obtain ⟨p2,h2⟩ := ih (i + (j - i)) (by omega) i (j - i) rfl (swR i (m - i) (m + j - i) l) (by omega) (by rw [p.length_eq];omega)
          refine ⟨p2.trans p,fun k => ?_⟩
          rw [h2 k]
          by_cases c1 : m - i ≤ k ∧ k < m - i + j
          · rw [if_pos c1]
            by_cases c3 : m - i ≤ k ∧ k < m - i + (j - i)
            · rw [if_pos c3,h]
              by_cases c4 : m ≤ k + i
              · rw [if_neg (by omega),if_neg (by omega)]
              · omega
            · rw [if_neg c3]
              by_cases c5 : k < m + (j - i)
              · rw [if_pos (by omega),h,if_pos (by omega)];congr 1;omega
              · omega
          · rw [if_neg c1]
            by_cases c2 : m - i + j ≤ k ∧ k < m + j
            · rw [if_pos c2,if_neg (by omega),if_neg (by omega),h,if_neg (by omega),if_pos (by omega)];congr 1;omega
            · rw [if_neg c2,if_neg (by omega),if_neg (by omega),h,if_neg (by omega),if_neg (by omega)]
end
section
variable {α : Type} [Inhabited α] {lt : α → α → Bool}
def symS (lt : α → α → Bool) (a m b : Nat) (l : List α) : Nat :=
  if (a + b) / 2 < m then hlf (fun c => !lt (nth l ((a + b) / 2 + m - 1 - c)) (nth l c)) ((a + b) / 2 + m - b) ((a + b) / 2)
  else hlf (fun c => !lt (nth l ((a + b) / 2 + m - 1 - c)) (nth l c)) a m
def cutR (s m mid : Nat) (l : List α) : List α :=
  if s < m ∧ m < mid + m - s then rot m (m - s) (mid + m - s - m) l else l
def symM (lt : α → α → Bool) : Nat → Nat → Nat → Nat → List α → List α
  | 0,_,_,_,l => l
  | f + 1,a,m,b,l =>
    if m - a = 1 then mvU (hlf (fun h => lt (nth l h) (nth l a)) m b - 1 - a) a l
    else if b - m = 1 then mvD (m - hlf (fun h => !lt (nth l m) (nth l h)) a m) m l
    else
      let s := symS lt a m b l
      let e := (a + b) / 2 + m - s
      let l2 := if a < s ∧ s < (a + b) / 2 then symM lt f a s ((a + b) / 2) (cutR s m ((a + b) / 2) l) else cutR s m ((a + b) / 2) l
      if (a + b) / 2 < e ∧ e < b then symM lt f ((a + b) / 2) e b l2 else l2
theorem sym1 (O : Ordr lt) {a b : Nat} {l : List α} (hab : a + 1 < b) (hb : b ≤ l.length) (h2 : Srt lt (a + 1) b l) : Wit a b l (mvU (hlf (fun h => lt (nth l h) (nth l a)) (a + 1) b - 1 - a) a l) ∧ Srt lt a b (mvU (hlf (fun h => lt (nth l h) (nth l a)) (a + 1) b - 1 - a) a l) := by
  obtain ⟨q1,q2,q3⟩ := hlf_ok (p:=fun h => lt (nth l h) (nth l a)) (a + 1) b (by omega)
  obtain ⟨q4,q5⟩ := q3 (fun x y h1 hxy hy hp => by
    cases hc : lt (nth l x) (nth l a)
    · have := O.ntr hc (h2 x y h1 hxy hy);have hp' : lt (nth l y) (nth l a) = true := hp;rw [hp'] at this;cases this
    · rfl)
  generalize hlf (fun h => lt (nth l h) (nth l a)) (a + 1) b = i at *
  obtain ⟨w,m1,m2⟩ := mvU_ok (n:=i - 1 - a) (k:=a) (l:=l) (by omega)
  refine ⟨w.wide (by omega) (by omega),fun p q hp hpq hq => ?_⟩
  rw [show a + (i - 1 - a) = i - 1 by omega] at *
  by_cases c1 : q < i - 1
  · rw [m1 p hp (by omega),m1 q (by omega) c1]
    exact h2 _ _ (by omega) (by omega) (by omega)
  · by_cases c2 : q = i - 1
    · subst c2
      rw [m2]
      by_cases c3 : p = i - 1
      · subst c3;rw [m2];exact O.rfl' _
      · rw [m1 p hp (by omega)]
        exact O.asym (q4 (p + 1) (by omega) (by omega))
    · rw [w.out q (by omega)]
      by_cases c3 : p < i - 1
      · rw [m1 p hp c3];exact h2 _ _ (by omega) (by omega) (by omega)
      · by_cases c4 : p = i - 1
        · subst c4;rw [m2];exact q5 q (by omega) hq
        · rw [w.out p (by omega)];exact h2 _ _ (by omega) hpq hq
theorem sym2 (O : Ordr lt) {a m : Nat} {l : List α} (ham : a < m) (hb : m + 1 ≤ l.length) (h1 : Srt lt a m l) : Wit a (m + 1) l (mvD (m - hlf (fun h => !lt (nth l m) (nth l h)) a m) m l) ∧ Srt lt a (m + 1) (mvD (m - hlf (fun h => !lt (nth l m) (nth l h)) a m) m l) := by
  obtain ⟨q1,q2,q3⟩ := hlf_ok (p:=fun h => !lt (nth l m) (nth l h)) a m (by omega)
  obtain ⟨q4,q5⟩ := q3 (fun x y h2 hxy hy hp => by
    simp only [Bool.not_eq_true'] at hp ⊢
    exact O.ntr (h1 x y h2 hxy hy) hp)
  generalize hlf (fun h => !lt (nth l m) (nth l h)) a m = i at *
  obtain ⟨w,m1,m2⟩ := mvD_ok (n:=m - i) (k:=m) (l:=l) (by omega) (by omega)
  rw [show m - (m - i) = i by omega] at *
  refine ⟨w.wide (by omega) (by omega),fun p q hp hpq hq => ?_⟩
  have q4' : ∀ x,a ≤ x → x < i → lt (nth l m) (nth l x) = false := fun x h2 h3 => by simpa using q4 x h2 h3
  have q5' : ∀ x,i ≤ x → x < m → lt (nth l m) (nth l x) = true := fun x h2 h3 => by simpa using q5 x h2 h3
  by_cases c1 : q < i
  · rw [w.out p (by omega),w.out q (by omega)];exact h1 _ _ hp hpq (by omega)
  · by_cases c2 : q = i
    · subst c2
      rw [m2]
      by_cases c3 : p = q
      · subst c3;rw [m2];exact O.rfl' _
      · rw [w.out p (by omega)];exact q4' p hp (by omega)
    · rw [m1 q (by omega) (by omega)]
      by_cases c3 : p < i
      · rw [w.out p (by omega)];exact h1 _ _ hp (by omega) (by omega)
      · by_cases c4 : p = i
        · subst c4;rw [m2];exact O.asym (q5' _ (by omega) (by omega))
        · rw [m1 p (by omega) (by omega)];exact h1 _ _ (by omega) (by omega) (by omega)
theorem symS_ok (O : Ordr lt) {a m b : Nat} {l : List α} (h1 : a < m) (h2 : m < b) (s1 : Srt lt a m l) (s2 : Srt lt m b l) :
    a ≤ symS lt a m b l ∧ symS lt a m b l ≤ m ∧ symS lt a m b l ≤ (a + b) / 2 ∧ m ≤ (a + b) / 2 + m - symS lt a m b l ∧ (a + b) / 2 + m - symS lt a m b l ≤ b ∧
    (∀ x y,a ≤ x → x < symS lt a m b l → (a + b) / 2 + m - symS lt a m b l ≤ y → y < b → lt (nth l y) (nth l x) = false) ∧
    (∀ x y,m ≤ x → x < (a + b) / 2 + m - symS lt a m b l → symS lt a m b l ≤ y → y < m → lt (nth l y) (nth l x) = false) := by
  have key : ∀ lo hi s,lo ≤ hi → a ≤ lo → hi ≤ m → hi ≤ (a + b) / 2 → (a + b) / 2 + m - lo ≤ b → m ≤ (a + b) / 2 + m - hi → (lo = a ∨ (a + b) / 2 + m - lo = b) → (hi = m ∨ (a + b) / 2 + m - hi = m) →
      s = hlf (fun c => !lt (nth l ((a + b) / 2 + m - 1 - c)) (nth l c)) lo hi → a ≤ s ∧ s ≤ m ∧ s ≤ (a + b) / 2 ∧ m ≤ (a + b) / 2 + m - s ∧ (a + b) / 2 + m - s ≤ b ∧
      (∀ x y,a ≤ x → x < s → (a + b) / 2 + m - s ≤ y → y < b → lt (nth l y) (nth l x) = false) ∧ (∀ x y,m ≤ x → x < (a + b) / 2 + m - s → s ≤ y → y < m → lt (nth l y) (nth l x) = false) := by
    intro lo hi s g1 g2 g3 g4 g5 g6 g7 g8 hs
    obtain ⟨q1,q2,q3⟩ := hlf_ok (p:=fun c => !lt (nth l ((a + b) / 2 + m - 1 - c)) (nth l c)) lo hi g1
    rw [← hs] at q1 q2 q3
    obtain ⟨q4,q5⟩ := q3 (fun x y hx hxy hy hp => by
      simp only [Bool.not_eq_true'] at hp ⊢
      have e1 := s1 x y (by omega) hxy (by omega)
      have e2 := s2 ((a + b) / 2 + m - 1 - y) ((a + b) / 2 + m - 1 - x) (by omega) (by omega) (by omega)
      exact O.ntr (O.ntr e1 hp) e2)
    refine ⟨by omega,by omega,by omega,by omega,by omega,fun x y hx1 hx2 hy1 hy2 => ?_,fun x y hx1 hx2 hy1 hy2 => ?_⟩
    · have hlo : lo ≤ s - 1 := by omega
      have e0 := q4 (s - 1) hlo (by omega)
      simp only [Bool.not_eq_true'] at e0
      rw [show (a + b) / 2 + m - 1 - (s - 1) = (a + b) / 2 + m - s by omega] at e0
      exact O.ntr (O.ntr (s1 x (s - 1) hx1 (by omega) (by omega)) e0) (s2 _ y (by omega) hy1 hy2)
    · have e0 := q5 s (by omega) (by omega)
      simp only [Bool.not_eq_false'] at e0
      have e0 := O.asym e0
      exact O.ntr (O.ntr (s2 x ((a + b) / 2 + m - 1 - s) hx1 (by omega) (by omega)) e0) (s1 s y (by omega) hy1 hy2)
  unfold symS
  split
  · exact key _ _ _ (by omega) (by omega) (by omega) (by omega) (by omega) (by omega) (.inr (by omega)) (.inr (by omega)) rfl
  · exact key _ _ _ (by omega) (by omega) (by omega) (by omega) (by omega) (by omega) (.inl rfl) (.inl rfl) rfl
theorem cutR_nth {s m mid : Nat} {l : List α} (hs : s ≤ mid) (hs2 : s ≤ m) (he : mid + m - s ≤ l.length) :
    (cutR s m mid l).Perm l ∧ ∀ k,nth (cutR s m mid l) k = if s ≤ k ∧ k < mid then nth l (k + (m - s)) else if mid ≤ k ∧ k < mid + m - s then nth l (k + s - mid) else nth l k := by
  unfold cutR
  split
  · rename_i h
    obtain ⟨p,q⟩ := rot_ok (m:=m) (m - s) (mid + m - s - m) l (by omega) (by omega)
    refine ⟨p,fun k => ?_⟩
    rw [q k]
    by_cases c1 : s ≤ k ∧ k < mid
    · rw [if_pos c1,if_pos (by omega)]
    · rw [if_neg c1,if_neg (by omega)]
      by_cases c2 : mid ≤ k ∧ k < mid + m - s
      · rw [if_pos c2,if_pos (by omega)];congr 1;omega
      · rw [if_neg c2,if_neg (by omega)]
  · rename_i h
    refine ⟨.refl _,fun k => ?_⟩
    by_cases c1 : s ≤ k ∧ k < mid
    · rw [if_pos c1];congr 1;omega
    · rw [if_neg c1]
      by_cases c2 : mid ≤ k ∧ k < mid + m - s
      · rw [if_pos c2];congr 1;omega
      · rw [if_neg c2]
theorem symM_ok (O : Ordr lt) : ∀ (f a m b : Nat) (l : List α),b - a ≤ f → a < m → m < b → b ≤ l.length → Srt lt a m l → Srt lt m b l → Wit a b l (symM lt f a m b l) ∧ Srt lt a b (symM lt f a m b l)
  | 0,a,m,b,l,hf,h1,h2,hb,s1,s2 => by omega
  | f + 1,a,m,b,l,hf,h1,h2,hb,s1,s2 => by
    unfold symM
    split
    · rename_i h
      obtain rfl : m = a + 1 := by omega
      exact sym1 O (by omega) hb s2
    · split
      · rename_i h
        obtain rfl : b = m + 1 := by omega
        exact sym2 O h1 hb s1
      · rename_i n1 n2
        obtain ⟨r1,r2,r3,r4,r5,r6,r7⟩ := symS_ok O h1 h2 s1 s2
        simp only
        generalize symS lt a m b l = s at *
        generalize hmid : (a + b) / 2 = mid at *
        obtain ⟨p,hn⟩ := cutR_nth (s:=s) (m:=m) (mid:=mid) (l:=l) r3 r2 (by omega)
        generalize cutR s m mid l = l1 at *
        have w1 : Wit a b l l1 := by
          refine ⟨p,fun k hk => ?_,fun k ha hk => ?_⟩
          · rw [hn k,if_neg (by omega),if_neg (by omega)]
          · rw [hn k]
            by_cases c1 : s ≤ k ∧ k < mid
            · rw [if_pos c1];exact ⟨_,by omega,by omega,rfl⟩
            · rw [if_neg c1]
              by_cases c2 : mid ≤ k ∧ k < mid + m - s
              · rw [if_pos c2];exact ⟨_,by omega,by omega,rfl⟩
              · rw [if_neg c2];exact ⟨_,ha,hk,rfl⟩
        have t1 : Srt lt a s l1 := fun i j g1 g2 g3 => by
          rw [hn i,hn j,if_neg (by omega),if_neg (by omega),if_neg (by omega),if_neg (by omega)];exact s1 i j g1 g2 (by omega)
        have t2 : Srt lt s mid l1 := fun i j g1 g2 g3 => by
          rw [hn i,hn j,if_pos (by omega),if_pos (by omega)];exact s2 _ _ (by omega) (by omega) (by omega)
        have t3 : Srt lt mid (mid + m - s) l1 := fun i j g1 g2 g3 => by
          rw [hn i,hn j,if_neg (by omega),if_pos (by omega),if_neg (by omega),if_pos (by omega)];exact s1 _ _ (by omega) (by omega) (by omega)
        have t4 : Srt lt (mid + m - s) b l1 := fun i j g1 g2 g3 => by
          rw [hn i,hn j,if_neg (by omega),if_neg (by omega),if_neg (by omega),if_neg (by omega)];exact s2 _ _ (by omega) (by omega) (by omega)
        have tc : ∀ x y,a ≤ x → x < mid → mid ≤ y → y < b → lt (nth l1 y) (nth l1 x) = false := fun x y g1 g2 g3 g4 => by
          by_cases c1 : x < s
          · rw [show nth l1 x = nth l x by rw [hn x,if_neg (by omega),if_neg (by omega)]]
            by_cases c2 : y < mid + m - s
            · rw [hn y,if_neg (by omega),if_pos (by omega)];exact s1 _ _ (by omega) (by omega) (by omega)
            · rw [hn y,if_neg (by omega),if_neg (by omega)];exact r6 _ _ (by omega) (by omega) (by omega) (by omega)
          · rw [show nth l1 x = nth l (x + (m - s)) by rw [hn x,if_pos (by omega)]]
            by_cases c2 : y < mid + m - s
            · rw [hn y,if_neg (by omega),if_pos (by omega)];exact r7 _ _ (by omega) (by omega) (by omega) (by omega)
            · rw [hn y,if_neg (by omega),if_neg (by omega)];exact s2 _ _ (by omega) (by omega) (by omega)
        have hl1 := w1.len
        have A : Wit a mid l1 (if a < s ∧ s < mid then symM lt f a s mid l1 else l1) ∧ Srt lt a mid (if a < s ∧ s < mid then symM lt f a s mid l1 else l1) := by
          split
          · rename_i h
            exact symM_ok O f a s mid l1 (by omega) h.1 h.2 (by omega) t1 t2
          · rename_i h
            refine ⟨Wit.refl ..,?_⟩
            by_cases c : s = a
            · subst c;exact t2
            · obtain rfl : s = mid := by omega
              exact t1
        generalize (if a < s ∧ s < mid then symM lt f a s mid l1 else l1) = l2 at *
        obtain ⟨w2,u1⟩ := A
        have hl2 := w2.len
        have t3' := t3.out w2 (.inr (Nat.le_refl _))
        have t4' := t4.out w2 (.inr (by omega))
        have B : Wit mid b l2 (if mid < mid + m - s ∧ mid + m - s < b then symM lt f mid (mid + m - s) b l2 else l2) ∧ Srt lt mid b (if mid < mid + m - s ∧ mid + m - s < b then symM lt f mid (mid + m - s) b l2 else l2) := by
          split
          · rename_i h
            exact symM_ok O f mid (mid + m - s) b l2 (by omega) h.1 h.2 (by omega) t3' t4'
          · rename_i h
            refine ⟨Wit.refl ..,?_⟩
            by_cases c : mid + m - s = b
            · rw [← c];exact t3'
            · have : mid = mid + m - s := by omega
              rw [← this] at t4';exact t4'
        generalize (if mid < mid + m - s ∧ mid + m - s < b then symM lt f mid (mid + m - s) b l2 else l2) = l3 at *
        obtain ⟨w3,u2⟩ := B
        refine ⟨(w1.trans (w2.wide (Nat.le_refl _) (by omega))).trans (w3.wide (by omega) (Nat.le_refl _)),fun x y g1 g2 g3 => ?_⟩
        by_cases c1 : y < mid
        · rw [w3.out x (by omega),w3.out y (by omega)];exact u1 x y g1 g2 c1
        · by_cases c2 : mid ≤ x
          · exact u2 x y c2 g2 g3
          · obtain ⟨y',y1,y2,e1⟩ := w3.mem y (by omega) g3
            obtain ⟨x',x1,x2,e2⟩ := w2.mem x g1 (by omega)
            rw [e1,w3.out x (by omega),e2,w2.out y' (by omega)]
            exact tc x' y' x1 x2 y1 y2
end
end Go.Proofs.Ytgkbmiaimjpbfaa.Ev
namespace Go.Proofs.Ytgkbmiaimjpbfaa.Ev
set_option linter.unusedSectionVars false
section
variable {α : Type} [Inhabited α] {lt : α → α → Bool}
def blk (g : Nat → List α → List α) (w n : Nat) : Nat → Nat → List α → Nat × List α
  | 0,a,l => (a,l)
  | f + 1,a,l => if a + w ≤ n then blk g w n f (a + w) (g a l) else (a,l)
theorem blk_ok {g : Nat → List α → List α} {w n : Nat} {l0 : List α} (hw : 1 ≤ w) (hn : n ≤ l0.length)
    (hg : ∀ k l',k * w + w ≤ n → l'.length = l0.length → (∀ i,k * w ≤ i → nth l' i = nth l0 i) → Wit (k * w) (k * w + w) l' (g (k * w) l') ∧ Srt lt (k * w) (k * w + w) (g (k * w) l')) :
    ∀ (f k : Nat) (l' : List α),n ≤ f + k * w → k * w ≤ n → Wit 0 (k * w) l0 l' → (∀ j,j < k → Srt lt (j * w) (j * w + w) l') →
    ∃ K,(blk g w n f (k * w) l').1 = K * w ∧ K * w ≤ n ∧ n < K * w + w ∧ Wit 0 (K * w) l0 (blk g w n f (k * w) l').2 ∧ ∀ j,j < K → Srt lt (j * w) (j * w + w) (blk g w n f (k * w) l').2
  | 0,k,l',h1,h2,h3,h4 => ⟨k,rfl,h2,by omega,h3,h4⟩
  | f + 1,k,l',h1,h2,h3,h4 => by
    unfold blk
    split
    · rename_i h
      obtain ⟨w1,s1⟩ := hg k l' h h3.len (fun i hi => h3.out i (.inr hi))
      rw [show k * w + w = (k + 1) * w by rw [Nat.succ_mul]] at *
      refine blk_ok hw hn hg f (k + 1) _ (by rw [Nat.succ_mul];omega) h ((h3.wide (Nat.le_refl _) (by rw [Nat.succ_mul];omega)).trans (w1.wide (Nat.zero_le _) (Nat.le_refl _))) (fun j hj => ?_)
      by_cases e : j = k
      · subst e;rw [show j * w + w = (j + 1) * w by rw [Nat.succ_mul]];exact s1
      · have hjk : j * w + w ≤ k * w := by
          rw [← Nat.succ_mul];exact Nat.mul_le_mul_right _ (by omega)
        exact (h4 j (by omega)).out w1 (.inl hjk)
    · rename_i h
      exact ⟨k,rfl,h2,by omega,h3,h4⟩
def Blks (lt : α → α → Bool) (w n : Nat) (l : List α) : Prop := ∀ k,k * w < n → Srt lt (k * w) (min (k * w + w) n) l
def stb1 (lt : α → α → Bool) (n : Nat) (l : List α) : List α :=
  ins lt (blk (fun a l => ins lt a (a + 20) l) 20 n n 0 l).1 n (blk (fun a l => ins lt a (a + 20) l) 20 n n 0 l).2
theorem stb1_ok (O : Ordr lt) {n : Nat} {l : List α} (hn : n ≤ l.length) : Wit 0 n l (stb1 lt n l) ∧ Blks lt 20 n (stb1 lt n l) := by
  unfold stb1
  obtain ⟨K,e,h1,h2,w1,s1⟩ := blk_ok (lt:=lt) (g:=fun a l => ins lt a (a + 20) l) (w:=20) (n:=n) (l0:=l) (by omega) hn (fun k l' hk hl _ => ins_ok O (by omega)) n 0 l (by omega) (by omega) (by rw [Nat.zero_mul];exact Wit.refl ..) (fun j hj => by omega)
  rw [Nat.zero_mul] at e w1 s1
  rw [e]
  generalize (blk (fun a l => ins lt a (a + 20) l) 20 n n 0 l).2 = l2 at *
  have hl := w1.len
  obtain ⟨w2,s2⟩ := ins_ok O (a:=K * 20) (b:=n) (l:=l2) (by omega)
  refine ⟨(w1.wide (Nat.le_refl _) h1).trans (w2.wide (Nat.zero_le _) (Nat.le_refl _)),fun k hk => ?_⟩
  by_cases c1 : k < K
  · rw [Nat.min_eq_left (by omega)]
    exact (s1 k c1).out w2 (.inl (by omega))
  · obtain rfl : k = K := by omega
    rw [Nat.min_eq_right (by omega)];exact s2
def mrg (lt : α → α → Bool) (w n : Nat) (l : List α) : List α :=
  if (blk (fun a l => symM lt (2 * w) a (a + w) (a + 2 * w) l) (2 * w) n n 0 l).1 + w < n then symM lt (2 * w) (blk (fun a l => symM lt (2 * w) a (a + w) (a + 2 * w) l) (2 * w) n n 0 l).1 ((blk (fun a l => symM lt (2 * w) a (a + w) (a + 2 * w) l) (2 * w) n n 0 l).1 + w) n (blk (fun a l => symM lt (2 * w) a (a + w) (a + 2 * w) l) (2 * w) n n 0 l).2
  else (blk (fun a l => symM lt (2 * w) a (a + w) (a + 2 * w) l) (2 * w) n n 0 l).2
theorem mrg_ok (O : Ordr lt) {w n : Nat} {l : List α} (hw : 1 ≤ w) (hn : n ≤ l.length) (hB : Blks lt w n l) : Wit 0 n l (mrg lt w n l) ∧ Blks lt (2 * w) n (mrg lt w n l) := by
  unfold mrg
  have h2w : ∀ k,k * (2 * w) = 2 * k * w := fun k => by rw [Nat.mul_comm 2 k,Nat.mul_assoc]
  have h2s : ∀ k,(2 * k + 1) * w = 2 * k * w + w := fun k => by rw [Nat.succ_mul]
  obtain ⟨K,e,h1,h2,w1,s1⟩ := blk_ok (lt:=lt) (g:=fun a l => symM lt (2 * w) a (a + w) (a + 2 * w) l) (w:=2 * w) (n:=n) (l0:=l) (by omega) hn (fun k l' hk hl hs => by
    have b1 := hB (2 * k) (by rw [h2w] at hk;omega)
    have b2 := hB (2 * k + 1) (by rw [h2w] at hk;rw [h2s];omega)
    rw [h2s] at b2
    rw [← h2w] at b1 b2
    rw [Nat.min_eq_left (by omega)] at b1 b2
    exact symM_ok O (2 * w) (k * (2 * w)) (k * (2 * w) + w) (k * (2 * w) + 2 * w) l' (by omega) (by omega) (by omega) (by omega)
      (fun i j g1 g2 g3 => by rw [hs i (by omega),hs j (by omega)];exact b1 i j g1 g2 g3)
      (fun i j g1 g2 g3 => by rw [hs i (by omega),hs j (by omega)];exact b2 i j g1 g2 (by omega))) n 0 l (by omega) (by omega) (by rw [Nat.zero_mul];exact Wit.refl ..) (fun j hj => by omega)
  rw [Nat.zero_mul] at e w1 s1
  rw [e]
  generalize (blk (fun a l => symM lt (2 * w) a (a + w) (a + 2 * w) l) (2 * w) n n 0 l).2 = l2 at *
  have hl := w1.len
  have hlow : ∀ k l3,k < K → Wit (K * (2 * w)) n l2 l3 → Srt lt (k * (2 * w)) (min (k * (2 * w) + 2 * w) n) l3 := fun k l3 hk w3 => by
    have hkk : k * (2 * w) + 2 * w ≤ K * (2 * w) := by
      rw [← Nat.succ_mul];exact Nat.mul_le_mul_right _ (by omega)
    rw [Nat.min_eq_left (by omega)]
    exact (s1 k hk).out w3 (.inl hkk)
  have hhi : ∀ k,K < k → ¬ k * (2 * w) < n := fun k hk => by
    have hkk : K * (2 * w) + 2 * w ≤ k * (2 * w) := by
      rw [← Nat.succ_mul];exact Nat.mul_le_mul_right _ (by omega)
    omega
  split
  · rename_i hlt
    have b1 := hB (2 * K) (by rw [h2w] at hlt;omega)
    have b2 := hB (2 * K + 1) (by rw [h2w] at hlt;rw [h2s];omega)
    rw [h2s] at b2
    rw [← h2w] at b1 b2
    rw [Nat.min_eq_left (by omega)] at b1
    rw [Nat.min_eq_right (by omega)] at b2
    obtain ⟨w2,s2⟩ := symM_ok O (2 * w) (K * (2 * w)) (K * (2 * w) + w) n l2 (by omega) (by omega) hlt (by omega)
      (fun i j g1 g2 g3 => by rw [w1.out i (by omega),w1.out j (by omega)];exact b1 i j g1 g2 g3)
      (fun i j g1 g2 g3 => by rw [w1.out i (by omega),w1.out j (by omega)];exact b2 i j g1 g2 g3)
    refine ⟨(w1.wide (Nat.le_refl _) h1).trans (w2.wide (Nat.zero_le _) (Nat.le_refl _)),fun k hk => ?_⟩
    by_cases c1 : k < K
    · exact hlow k _ c1 w2
    · by_cases c2 : k = K
      · subst c2;rw [Nat.min_eq_right (by omega)];exact s2
      · exact absurd hk (hhi k (by omega))
  · rename_i hlt
    refine ⟨w1.wide (Nat.le_refl _) h1,fun k hk => ?_⟩
    by_cases c1 : k < K
    · exact hlow k _ c1 (Wit.refl ..)
    · by_cases c2 : k = K
      · subst c2
        have b1 := hB (2 * k) (by rw [h2w] at hk;omega)
        rw [← h2w] at b1
        rw [Nat.min_eq_right (by omega)] at b1 ⊢
        intro i j g1 g2 g3
        rw [w1.out i (by omega),w1.out j (by omega)];exact b1 i j g1 g2 g3
      · exact absurd hk (hhi k (by omega))
def stb2 (lt : α → α → Bool) (n : Nat) : Nat → Nat → List α → List α
  | 0,_,l => l
  | f + 1,w,l => if w < n then stb2 lt n f (2 * w) (mrg lt w n l) else l
theorem stb2_ok (O : Ordr lt) {n : Nat} : ∀ (f w : Nat) (l : List α),n ≤ f + w → 1 ≤ w → n ≤ l.length → Blks lt w n l → Wit 0 n l (stb2 lt n f w l) ∧ Srt lt 0 n (stb2 lt n f w l)
  | 0,w,l,hf,hw,hn,hB => by
    refine ⟨Wit.refl ..,fun i j g1 g2 g3 => ?_⟩
    have b := hB 0 (by omega)
    rw [Nat.zero_mul,Nat.min_eq_right (by omega)] at b
    exact b i j g1 g2 g3
  | f + 1,w,l,hf,hw,hn,hB => by
    unfold stb2
    split
    · rename_i h
      obtain ⟨w1,b1⟩ := mrg_ok O hw hn hB
      obtain ⟨w2,s2⟩ := stb2_ok O f (2 * w) _ (by omega) (by omega) (by rw [w1.len];exact hn) b1
      exact ⟨w1.trans w2,s2⟩
    · rename_i h
      refine ⟨Wit.refl ..,fun i j g1 g2 g3 => ?_⟩
      have b := hB 0 (by omega)
      rw [Nat.zero_mul,Nat.min_eq_right (by omega)] at b
      exact b i j g1 g2 g3
def stb (lt : α → α → Bool) (l : List α) : List α := stb2 lt l.length l.length 20 (stb1 lt l.length l)
theorem stb_ok (O : Ordr lt) (l : List α) : (stb lt l).Perm l ∧ Srt lt 0 l.length (stb lt l) := by
  obtain ⟨w1,b1⟩ := stb1_ok O (n:=l.length) (l:=l) (Nat.le_refl _)
  obtain ⟨w2,s2⟩ := stb2_ok O l.length 20 _ (by omega) (by omega) (by rw [w1.len];exact Nat.le_refl _) b1
  exact ⟨(w1.trans w2).perm,s2⟩
end
end Go.Proofs.Ytgkbmiaimjpbfaa.Ev
namespace Go.Proofs.Ytgkbmiaimjpbfaa.Ev
open Go
set_option maxRecDepth 100000
set_option linter.unusedSimpArgs false
set_option linter.unusedVariables false
set_option maxHeartbeats 2000000
section
variable {call : Call} {id base : Nat} {e : List (Nat × V)} {o : List (Nat × Ob)} {n : Nat} {t : TypeId} {K : V → List (Nat × Ob) → Prop}
theorem cI {args : Array Operand} {ts : Array TypeId} {fo : Operand} {f : FuncId} {q m : Nat} {vs ys : List V} {ob : Ob} {o1 : List (Nat × Ob)} (hx : opsV e args.toList = some (.ref q 0 m :: vs) := by exact rfl) (hf : opV e fo = some (.clo f []) := by exact rfl) (hB : cf.inB f = false := by (rw [cf_in];rfl)) (hmd : cf.md f = [.io] := by (rw [cf_md];rfl)) (ho : geta o q = some ob := by exact rfl) (hb : ob.bx = false := by rfl) (hl : m = ob.xs.length := by first | rfl | (simp;done) | (simp;omega))
    (hc : call f (.iol ob.sz ob.xs :: vs) = some (.tup [],[.lst true ob.sz ys])) (hal : V.alikeL ob.xs ys = true) (hd : dela o q = o1 := by (simp;rfl)) (hlv : ∀ s : St,lendV [] vs s = some (vs,s,[]) := by intro s;rfl) (hsv : ∀ s : St,snapsV s [] vs = some vs := by intro s;rfl) (hp : plainM [.io] (.ref q 0 m :: vs) = [] := by rfl)
    (h : K (.tup []) ((q,⟨false,ob.fx,ob.sz,ys,ob.ver + 1⟩) :: o1)) : opK call cf id base e o n t (.call ⟨.value fo,args,ts⟩) K := by
  subst hd hl
  refine k_call hx hf hB rfl (bs:=.iol ob.sz ob.xs :: vs) (s1:=⟨e,dela o q,n⟩) (lent:=[(q,ob)]) (asv:=.iol ob.sz ob.xs :: vs) (ro:=[.lst true ob.sz ys]) (s2:=⟨e,(q,⟨false,ob.fx,ob.sz,ys,ob.ver + 1⟩) :: dela o q,n⟩) ?_ ?_ hc rfl ?_ ?_ rfl ?_
  · rw [hmd,List.append_nil]
    simp only [lendV,lendOne,List.headD_cons,List.tail_cons,ho,hb,if_true,and_self,hlv,List.append_nil]
  · rw [hmd]
    simp only [snapsV,List.headD_cons,List.tail_cons,hsv,V.snapA,V.snapP,V.snap,mp_some]
  · rw [hmd,List.append_nil,hp]
    exact ⟨.inl rfl,by simp [V.thaw]⟩
  · simp only [backs,backOne,hb,hal,Bool.false_eq_true,if_false,and_self,if_true,puta]
  · exact h
end
theorem iv_sub {a b : Int} {c : Nat} (h : a - b = c) (hc : c < 4000000000000000000) : intV .sub .i64 a b = some (.int .i64 c) := by
  simp only [intV];rw [wrap_id (by omega) (by omega),h]
theorem iv_add {a b : Int} {c : Nat} (h : a + b = c) (hc : c < 4000000000000000000) : intV .add .i64 a b = some (.int .i64 c) := by
  simp only [intV];rw [wrap_id (by omega) (by omega),h]
theorem iv_mul {a b : Int} {c : Nat} (h : a * b = c) (hc : c < 4000000000000000000) : intV .mul .i64 a b = some (.int .i64 c) := by
  simp only [intV];rw [wrap_id (by omega) (by omega),h]
@[simp] theorem Ct.ne_undC (x : Ct) : (x.v = V.und) = False := by simp [Ct.v]
theorem tnat {a b : Nat} : ((a : Int) + (b : Int)).toNat = a + b := by omega
instance : Inhabited Ct := ⟨⟨0,0,0⟩⟩
theorem bub_t {α : Type} [Inhabited α] {lt : α → α → Bool} {a j : Nat} {l : List α} (h : a < j) (h2 : lt (nth l j) (nth l (j - 1)) = true) : bub lt a j l = bub lt a (j - 1) (swp l j (j - 1)) := by
  obtain ⟨k,rfl⟩ : ∃ k,j = k + 1 := ⟨j - 1,by omega⟩
  conv => lhs;unfold bub
  rw [if_pos ⟨h,h2⟩];rfl
theorem bub_f {α : Type} [Inhabited α] {lt : α → α → Bool} {a j : Nat} {l : List α} (h : ¬ (a < j ∧ lt (nth l j) (nth l (j - 1)) = true)) : bub lt a j l = l := by
  cases j with
  | zero => rfl
  | succ k => unfold bub;exact if_neg h
theorem rot_0 {α : Type} [Inhabited α] {m i j : Nat} {l : List α} (hi : 0 < i) (h : i = j) : rot m i j l = swR i (m - i) m l := by
  unfold rot;rw [if_neg (by omega),if_pos h]
theorem rot_1 {α : Type} [Inhabited α] {m i j : Nat} {l : List α} (hj : 0 < j) (h : j < i) : rot m i j l = rot m (i - j) j (swR j (m - i) m l) := by
  conv => lhs;unfold rot
  rw [if_neg (by omega),if_neg (by omega),if_pos h]
theorem rot_2 {α : Type} [Inhabited α] {m i j : Nat} {l : List α} (hi : 0 < i) (h : i < j) : rot m i j l = rot m i (j - i) (swR i (m - i) (m + j - i) l) := by
  conv => lhs;unfold rot
  rw [if_neg (by omega),if_neg (by omega),if_neg (by omega)]
section
variable {call : Call} {id base : Nat} {e : List (Nat × V)} {o : List (Nat × Ob)} {n : Nat} {t : TypeId} {K : V → List (Nat × Ob) → Prop}
theorem cvN {ts t' : TypeId} {x : Operand} {k0 k k1 : IntKind} {a : Int} {c : Nat} (h0 : cf.ints ts = some k0 := by exact tys_ok.ints _ _ rfl) (h1 : cf.ints t' = some k := by exact tys_ok.ints _ _ rfl) (hx : opV e x = some (.int k1 a) := by exact rfl) (hc : k.wrap a = c) (h : K (.int k c) o) : opK call cf id base e o n t (.convert ts t' x) K := cv h0 h1 hx (by rw [hc];exact h)
end
theorem u64_nat {c : Nat} (h : c < 4611686018427387904) : IntKind.u64.wrap (c : Int) = c := by
  unfold IntKind.wrap;simp [IntKind.bits,IntKind.signed];omega
theorem shr1 {c : Nat} : shiftV .shr (.int .u64 (c : Int)) (.int .u64 1) = some (.int .u64 ((c / 2 : Nat) : Int)) := by
  simp only [shiftV,if_neg (show ¬ (1 : Int) < 0 by omega),IntKind.bits]
  rw [Int.fdiv_eq_ediv_of_nonneg _ (by decide)]
  simp
theorem hlf_t {p : Nat → Bool} {i j : Nat} (h : i < j) (hp : p ((i + j) / 2) = true) : hlf p i j = hlf p ((i + j) / 2 + 1) j := by
  conv => lhs;unfold hlf
  rw [dif_pos h,if_pos hp]
theorem hlf_f {p : Nat → Bool} {i j : Nat} (h : i < j) (hp : p ((i + j) / 2) = false) : hlf p i j = hlf p i ((i + j) / 2) := by
  conv => lhs;unfold hlf
  rw [dif_pos h,if_neg (by simp [hp])]
theorem hlf_0 {p : Nat → Bool} {i j : Nat} (h : ¬ i < j) : hlf p i j = i := by
  unfold hlf;rw [dif_neg h]
end Go.Proofs.Ytgkbmiaimjpbfaa.Ev
namespace Go.Proofs.Ytgkbmiaimjpbfaa.Ev
open Go
set_option maxRecDepth 100000
set_option linter.unusedSimpArgs false
set_option linter.unusedVariables false
set_option maxHeartbeats 2000000
def bys (c : List Int) : List V := c.map fun x => V.int .u8 x
@[simp] theorem bys_len (c : List Int) : (bys c).length = c.length := by simp [bys]
@[simp] theorem bys_shareL (c : List Int) : V.shareL (bys c) = bys c := by
  induction c with
  | nil => rfl
  | cons x c ih => simp only [bys,List.map_cons,V.shareL,V.share] at ih ⊢;rw [ih]
def srcV (c : List Int) (a : Nat) : V := .agg [.lst false 0 (bys c),.int .i64 a]
@[simp] theorem srcV_cells (c : List Int) (a : Nat) : (srcV c a).cells = 2 := rfl
@[simp] theorem srcV_mention (c : List Int) (a : Nat) : V.mention (srcV c a) = [] := rfl
@[simp] theorem srcV_ren (c : List Int) (a : Nat) (ρ : Nat → Option Nat) (vr : Nat → Nat) : V.ren ρ vr (srcV c a) = srcV c a := rfl
@[simp] theorem srcV_fzI (c : List Int) (a : Nat) (s : St) : V.fzI (srcV c a) s = some (srcV c a,s) := by simp [srcV,V.fzI,V.fzIL,V.fz,mp]
def okS (c : List Int) : Prop := c.length ≤ 1048576 ∧ ∀ x ∈ c,0 ≤ x ∧ x < 256
section
variable {call : Call} {id base : Nat} {e : List (Nat × V)} {o : List (Nat × Ob)} {n : Nat} {t : TypeId} {K : V → List (Nat × Ob) → Prop}
theorem cP {args : Array Operand} {ts : Array TypeId} {fo : Operand} {f : FuncId} {q a a' id' : Nat} {c : List Int} {vs asv : List V} {ob : Ob} {o1 o2 : List (Nat × Ob)} {rv v : V} {sr : Option (List V)} (hx : opsV e args.toList = some (.ptr q 0 [] :: vs) := by exact rfl) (hf : opV e fo = some (.clo f []) := by exact rfl) (hB : cf.inB f = false := by (rw [cf_in];rfl)) (hmd : cf.md f = [.io] := by (rw [cf_md];rfl)) (ho : geta o q = some ob := by exact rfl) (hb : ob.bx = true := by rfl) (hxs : ob.xs = [srcV c a] := by rfl)
    (hd : dela o q = o1 := by (simp;rfl)) (hlv : ∀ s : St,lendV [] vs s = some (vs,s,[]) := by intro s;rfl) (hs : snapsV ⟨[],o1,n⟩ [] vs = sr := by (simp;rfl)) (hsr : sr = some asv := by first | rfl | (simp [*] <;> fail)) (hc : call f (.iop (srcV c a) :: asv) = some (rv,[srcV c a'])) (hid : id = id' := by ((try simp);rfl))
    (hw : ((plainM [.io] (.ptr q 0 [] :: vs)).isEmpty = true ∨ rv.tidy = true ∧ V.tidyL ([srcV c a'] : List V) = true) ∧ (rv.thaw id').2.2 ≤ id' + 32 := by (simp [plainM,V.mention,V.mentionL])) (hv : (rv.thaw id').1 = v := by (simp;rfl)) (ho2 : (rv.thaw id').2.1 ++ ((q,⟨true,ob.fx,ob.sz,[srcV c a'],ob.ver + 1⟩) :: o1) = o2 := by (simp;rfl))
    (h : K v o2) : opK call cf id base e o n t (.call ⟨.value fo,args,ts⟩) K := by
  subst hd hid hv ho2
  rw [← hs] at hsr
  refine k_call hx hf hB rfl (bs:=.iop (srcV c a) :: vs) (s1:=⟨e,dela o q,n⟩) (lent:=[(q,ob)]) (asv:=.iop (srcV c a) :: asv) (ro:=[srcV c a']) (s2:=⟨e,(q,⟨true,ob.fx,ob.sz,[srcV c a'],ob.ver + 1⟩) :: dela o q,n⟩) ?_ ?_ hc rfl ?_ ?_ rfl h
  · rw [hmd,List.append_nil]
    simp only [lendV,lendOne,List.headD_cons,List.tail_cons,ho,hxs,hb,if_true,and_self,List.isEmpty_nil,hlv,List.append_nil,srcV,V.fzI,V.fzIL,V.fz,mp_some]
  · rw [hmd]
    have := snaps_re e ⟨[],dela o q,n⟩ [] vs
    rw [hsr] at this
    simp only [snapsV,List.headD_cons,List.tail_cons,mp]
    rw [show snapsV ⟨e,dela o q,n⟩ [] vs = some asv from this]
    rfl
  · rw [hmd,List.append_nil]
    exact hw
  · simp only [backs,backOne,hb,hxs,if_true,puta,srcV]
    rfl
theorem cPT {args : Array Operand} {ts : Array TypeId} {fo : Operand} {f : FuncId} {q q2 m a a' : Nat} {c : List Int} {ob ob2 : Ob} {o1 : List (Nat × Ob)} {k : IntKind} {r : Int} (hx : opsV e args.toList = some [.ptr q 0 [],.ref q2 0 m] := by exact rfl) (hf : opV e fo = some (.clo f []) := by exact rfl) (hB : cf.inB f = false := by (rw [cf_in];rfl)) (hmd : cf.md f = [.io,.take] := by (rw [cf_md];rfl)) (ho : geta o q = some ob := by exact rfl) (hb : ob.bx = true := by rfl) (hxs : ob.xs = [srcV c a] := by rfl)
    (h2 : geta (dela o q) q2 = some ob2 := by (simp;rfl)) (hb2 : ob2.bx = false := by rfl) (hf2 : ob2.fx = false := by rfl) (hm : m = ob2.xs.length := by first | rfl | simp) (hd : dela (dela o q) q2 = o1 := by (simp;rfl)) (hc : call f [.iop (srcV c a),.lst true ob2.sz ob2.xs] = some (.int k r,[srcV c a']))
    (h : K (.int k r) ((q,⟨true,ob.fx,ob.sz,[srcV c a'],ob.ver + 1⟩) :: o1)) : opK call cf id base e o n t (.call ⟨.value fo,args,ts⟩) K := by
  subst hd hm
  have hg : St.give ⟨e,dela o q,n⟩ q2 0 ob2.xs.length = some (ob2.sz,ob2.xs,⟨e,dela (dela o q) q2,n⟩) := by
    simp only [St.give,h2,hb2,hf2,Nat.zero_add,Nat.le_refl,and_self,if_true,List.drop_zero,List.take_length]
  have hz : V.fz (.ref q2 0 ob2.xs.length) ⟨e,dela o q,n⟩ = some (.lst true ob2.sz ob2.xs,⟨e,dela (dela o q) q2,n⟩) := by
    simp only [V.fz,hg,mp_some]
  refine k_call hx hf hB rfl (bs:=[.iop (srcV c a),.lst true ob2.sz ob2.xs]) (s1:=⟨e,dela (dela o q) q2,n⟩) (lent:=[(q,ob)]) (asv:=[.iop (srcV c a),.lst true ob2.sz ob2.xs]) (ro:=[srcV c a']) (s2:=⟨e,(q,⟨true,ob.fx,ob.sz,[srcV c a'],ob.ver + 1⟩) :: dela (dela o q) q2,n⟩) ?_ ?_ hc rfl ?_ ?_ rfl h
  · rw [hmd,List.append_nil]
    simp only [lendV,lendOne,List.headD_cons,List.tail_cons,ho,hxs,hb,if_true,and_self,List.isEmpty_nil,List.append_nil,srcV,V.fzI,V.fzIL,V.fz,hg,mp_some,V.argOk]
  · rw [hmd]
    simp only [snapsV,List.headD_cons,List.tail_cons,mp_some]
  · rw [hmd,List.append_nil]
    exact ⟨.inl rfl,by simp [V.thaw]⟩
  · simp only [backs,backOne,hb,hxs,if_true,puta,srcV]
    rfl
end
def nxtV (c : List Int) (a : Nat) (n : Int) : Int :=
  if n < 1 then 0 else if c.length = 0 then ((a : Int) * 7) % n else
    let v := c.getD (a % c.length) 0 + (a / c.length : Nat) * 37
    (if 200 < n then v * 251 + c.getD ((a + 1) % c.length) 0 * 13 + a else v) % n
theorem nxtV_in {c : List Int} {a : Nat} {n : Int} (h : 1 ≤ n) : 0 ≤ nxtV c a n ∧ nxtV c a n < n := by
  unfold nxtV
  rw [if_neg (by omega)]
  split
  · exact ⟨Int.emod_nonneg _ (by omega),Int.emod_lt_of_pos _ (by omega)⟩
  · exact ⟨Int.emod_nonneg _ (by omega),Int.emod_lt_of_pos _ (by omega)⟩
theorem getD_in {c : List Int} (h : okS c) {i : Nat} : 0 ≤ c.getD i 0 ∧ c.getD i 0 < 256 := by
  rcases Nat.lt_or_ge i c.length with hi | hi
  · have := h.2 (c[i]) (List.getElem_mem hi)
    simpa [List.getD,hi] using this
  · have : c.getD i 0 = 0 := by simp [List.getD,List.getElem?_eq_none hi]
    omega
theorem bys_get {c : List Int} {i : Nat} (h : i < c.length) : (bys c)[i]? = some (.int .u8 (c.getD i 0)) := by
  simp [bys,h,List.getD]
theorem iv_rem {a b : Nat} {x y : Int} (h1 : x = a) (h2 : y = b) (hb : 0 < b) : intV .rem .i64 x y = some (.int .i64 ((a % b : Nat) : Int)) := by
  subst h1 h2
  simp only [intV,if_neg (show ¬ (b : Int) = 0 by omega)]
  rfl
theorem iv_quo {a b q : Nat} {x y : Int} (h1 : x = a) (h2 : y = b) (hb : 0 < b) (hq : a / b = q) (ha : q < 4000000000000000000) : intV .quo .i64 x y = some (.int .i64 (q : Int)) := by
  subst h1 h2
  simp only [intV,if_neg (show ¬ (b : Int) = 0 by omega)]
  rw [show (a : Int).tdiv b = ((a / b : Nat) : Int) from rfl,hq,wrap_id (by omega) (by omega)]
theorem iv_remI {x n : Int} (h0 : 0 ≤ x) (hn : 0 < n) : intV .rem .i64 x n = some (.int .i64 (x % n)) := by
  simp only [intV,if_neg (show ¬ n = 0 by omega)]
  rw [Int.tmod_eq_emod_of_nonneg h0]
theorem iv_addI {a b c : Int} (h : a + b = c) (h1 : -4000000000000000000 ≤ c) (h2 : c < 4000000000000000000) : intV .add .i64 a b = some (.int .i64 c) := by
  simp only [intV];rw [h,wrap_id (by omega) (by omega)]
theorem iv_mulI {a b c : Int} (h : a * b = c) (h1 : -4000000000000000000 ≤ c) (h2 : c < 4000000000000000000) : intV .mul .i64 a b = some (.int .i64 c) := by
  simp only [intV];rw [h,wrap_id (by omega) (by omega)]
theorem e_next (c : List Int) (a : Nat) (n : Int) (hc : okS c) (ha : a < 1000000000) (hn : n < 4000000000000000000) : oc.call 98 [.iop (srcV c a),.int .i64 n] = some (.int .i64 (nxtV c a n),[srcV c (a + 1)]) := by
 refine fun_s rfl cd98 rfl rfl rfl (by simp;rfl) (by simp;rfl) ?_
 have hc1 := hc.1
 obtain ⟨k,hk⟩ : ∃ k,c.length = k := ⟨_,rfl⟩
 have hB := getD_in hc (i:=a % k)
 have hB2 := getD_in hc (i:=(a + 1) % k)
 obtain ⟨q,hq0⟩ : ∃ q,a / k = q := ⟨_,rfl⟩
 have hq : q ≤ a := by rw [← hq0];exact Nat.div_le_self ..
 refine wa_ (wc_region (w_ (a_ (h:=wo_nil (e_ (h:=aft_normal (wa_ (wc_region (w_ (m_ (h:=w_ (m_ (h:=w_ (nc (h:=w_ (f_ (h:=w_ (l_ (h:=?_)))))))))))))))))))
 refine w_ (?_)
 refine b_ (hv:=iv_add (c:=a + 1) (by simp) (by omega)) (h:=?_)
 refine w_ (nc (h:=w_ (f_ (h:=w0 (s_ (h:=wo_nil (e_ (h:=aft_normal (wa_ (wa_ (wc_region (w_ (m_ (h:=w_ (b_ (h:=wo_nil (e_ (h:=aft_normal (?_)))))))))))))))))))
 refine c_ (h1:=?_) (h2:=?_)
 rotate_right 1
 focus
  intro c1
  first
  | exact dn c1
  | (
   have d1 := c1;try simp at d1
   refine wc_skip (?_)
   )
 rotate_right 1
 focus
  intro c1
  first
  | exact dn c1
  | (
   have d1 := c1;try simp at d1
   refine wa_ (wc_region (w_ (a_ (h:=wo_nil (e_ (h:=aft_normal (wc_ret (?_))))))))
   )
 all_goals first
 | refine aft_ret ?_
 | (
  refine aft_normal ?_
  refine wa_ (wc_region (w_ (m_ (h:=w_ (nc (h:=w_ (f_ (h:=w_ (l_ (h:=w_ (?_)))))))))))
  refine b_ (hv:=iv_sub (c:=a) (by simp) (by omega)) (h:=?_)
  refine w_ (a_ (h:=wo_nil (e_ (h:=aft_normal (wa_ (wc_region (w_ (m_ (h:=w_ (nc (h:=w_ (f_ (h:=w_ (l_ (h:=w_ (le (h:=w_ (a_ (h:=wo_nil (e_ (h:=?_)))))))))))))))))))))
  refine aft_normal (wa_ (wa_ (wc_region (w_ (m_ (h:=w_ (bE (h:=wo_nil (e_ (h:=aft_normal (?_)))))))))))
  refine c_ (h1:=?_) (h2:=?_)
  rotate_right 1
  focus
   intro c2
   first
   | exact dn c2
   | (
    have d2 := c2;try simp at d2
    have hk0 : 0 < k := (by have := List.length_pos_iff.2 (show c ≠ [] by simpa using c2);omega);have hkn : ¬ k = 0 := (by omega);have hm1 := Nat.mod_lt a hk0;have hm2 := Nat.mod_lt (a + 1) hk0;have g1 : (bys c)[a % k]? = _ := bys_get (by omega);have g2 : (bys c)[(a + 1) % k]? = _ := bys_get (by omega)
    refine wc_skip (?_)
    )
  rotate_right 1
  focus
   intro c2
   first
   | exact dn c2
   | (
    have d2 := c2;try simp at d2
    have hk1 : k = 0 := (by have h0 : c = [] := (by simpa using c2);rw [h0] at hk;exact hk.symm)
    refine wa_ (wc_region (w_ (m_ (h:=w_ (?_)))))
    refine b_ (hv:=iv_mulI (c:=(a : Int) * 7) rfl (by omega) (by omega)) (h:=?_)
    refine w_ (m_ (h:=w_ (?_)))
    refine b_ (hv:=iv_remI (by omega) (by omega)) (h:=?_)
    refine w_ (a_ (h:=wo_nil (e_ (h:=aft_normal (wc_ret (?_))))))
    )
  all_goals first
  | refine aft_ret ?_
  | (
   refine aft_normal ?_
   refine wa_ (wc_draw (y_ (m_ (h:=ax_ (h:=y_ (nc (h:=ax_ (h:=y_ (f_ (h:=ax_ (h:=y_ (l_ (h:=ax_ (h:=y_ (m_ (h:=ax_ (h:=y_ (m_ (h:=ax_ (h:=y_ (?_)))))))))))))))))))))
   refine b_ (hv:=iv_rem (a:=a) (b:=k) rfl (by simp [hk]) hk0) (h:=?_)
   refine ax_ (h:=y_ (x_ (h:=ax_ (h:=y_ (l_ (h:=ax_ (h:=y_ (?_))))))))
   refine cv (h:=?_)
   refine ax_ (h:=y_ (m_ (h:=ax_ (h:=y_ (m_ (h:=ax_ (h:=y_ (?_))))))))
   refine b_ (hv:=iv_quo (a:=a) (b:=k) rfl (by simp [hk]) hk0 hq0 (by omega)) (h:=?_)
   refine ax_ (h:=y_ (?_))
   refine b_ (hv:=iv_mulI (c:=(q : Int) * 37) rfl (by omega) (by omega)) (h:=?_)
   refine ax_ (h:=y_ (?_))
   refine b_ (hv:=iv_addI (c:=c.getD (a % k) 0 + (q : Int) * 37) (by rw [wrap_id (by omega) (by omega)]) (by omega) (by omega)) (h:=?_)
   refine ax_ (h:=y_ (a_ (h:=ax_ (h:=wo_nil (ed (h:=aft_normal (wa_ (wa_ (wc_region (w_ (m_ (h:=w_ (b_ (h:=wo_nil (e_ (h:=aft_normal (?_)))))))))))))))))
   refine c_ (h1:=?_) (h2:=?_)
   rotate_right 1
   focus
    intro c3
    first
    | exact dn c3
    | (
     have d3 := c3;try simp at d3
     refine wc_skip (?_)
     )
   rotate_right 1
   focus
    intro c3
    first
    | exact dn c3
    | (
     have d3 := c3;try simp at d3
     refine wc_draw (y_ (m_ (h:=ax_ (h:=y_ (?_)))))
     refine b_ (hv:=iv_mulI (c:=(c.getD (a % k) 0 + (q : Int) * 37) * 251) rfl (by omega) (by omega)) (h:=?_)
     refine ax_ (h:=y_ (m_ (h:=ax_ (h:=y_ (nc (h:=ax_ (h:=y_ (f_ (h:=ax_ (h:=y_ (l_ (h:=ax_ (h:=y_ (m_ (h:=ax_ (h:=y_ (?_)))))))))))))))))
     refine b_ (hv:=iv_add (c:=a + 1) (by simp) (by omega)) (h:=?_)
     refine ax_ (h:=y_ (m_ (h:=ax_ (h:=y_ (?_)))))
     refine b_ (hv:=iv_rem (a:=a + 1) (b:=k) rfl (by simp [hk]) hk0) (h:=?_)
     refine ax_ (h:=y_ (x_ (h:=ax_ (h:=y_ (l_ (h:=ax_ (h:=y_ (?_))))))))
     refine cv (h:=?_)
     refine ax_ (h:=y_ (?_))
     refine b_ (hv:=iv_mulI (c:=c.getD ((a + 1) % k) 0 * 13) (by rw [wrap_id (by omega) (by omega)]) (by omega) (by omega)) (h:=?_)
     refine ax_ (h:=y_ (?_))
     refine b_ (hv:=iv_addI (c:=(c.getD (a % k) 0 + (q : Int) * 37) * 251 + c.getD ((a + 1) % k) 0 * 13) rfl (by omega) (by omega)) (h:=?_)
     refine ax_ (h:=y_ (m_ (h:=ax_ (h:=y_ (?_)))))
     refine b_ (hv:=iv_addI (c:=(c.getD (a % k) 0 + (q : Int) * 37) * 251 + c.getD ((a + 1) % k) 0 * 13 + (a : Int)) rfl (by omega) (by omega)) (h:=?_)
     refine ax_ (h:=y_ (a_ (h:=ax_ (h:=wo_nil (ed (h:=?_))))))
     )
   all_goals first
   | (
    refine aft_normal ?_
    refine wa_ (wc_region (w_ (m_ (h:=w_ (m_ (h:=w_ (?_)))))))
    refine b_ (hv:=iv_remI (by omega) (by omega)) (h:=?_)
    refine w_ (a_ (h:=wo_nil (e_ (h:=aft_normal (wc_ret (?_))))))
    )
   )
  )
 all_goals (refine fin_ (hr:=(res_tmp rfl res_nil)) (h:=?_);(focus (unfold nxtV;rw [hk,hq0];first | (rw [if_pos (by omega)];simp [srcV];done) | (rw [if_neg (by omega),if_pos hk1];simp [srcV];done) | (rw [if_neg (by omega),if_neg hkn];simp only [];first | (rw [if_pos (by simpa using c3)];simp [srcV];done) | (rw [if_neg (by simpa using c3)];simp [srcV];done)))))
theorem e_pick (c : List Int) (a : Nat) (l : List Int) (hc : okS c) (ha : a < 1000000000) (hl : 0 < l.length) (hl2 : l.length < 1000000) : oc.call 96 [.iop (srcV c a),.lst true 1 (ints l)] = some (.int .i64 (at0 l (nxtV c a l.length)),[srcV c (a + 1)]) := by
 refine fun_s rfl cd96 rfl rfl rfl (by simp;rfl) (by simp;rfl) ?_
 obtain ⟨h1,h2⟩ := nxtV_in (c:=c) (a:=a) (n:=l.length) (by omega)
 have g1 := ints_ix (w:=l) h1 h2
 refine wa_ (wc_region (w_ (a_ (h:=wo_nil (e_ (h:=aft_normal (wa_ (wc_region (w_ (m_ (h:=w_ (m_ (h:=w_ (m_ (h:=w_ (le (h:=w_ (cP (hc:=e_next c a l.length hc ha (by omega)) (h:=?_)))))))))))))))))))
 refine w_ (x_ (h:=w_ (l_ (h:=w_ (a_ (h:=wo_nil (e_ (h:=aft_normal (wc_ret (?_))))))))))
 all_goals (refine fin_ (hr:=(res_tmp rfl res_nil)) (h:=?_);(focus (simp [srcV])))
theorem e_chance (c : List Int) (a : Nat) (n : Int) (hc : okS c) (ha : a < 1000000000) (hn : n < 1000000) : oc.call 124 [.iop (srcV c a),.int .i64 n] = some (.bool (decide (nxtV c a n = 0)),[srcV c (a + 1)]) := by
 refine fun_s rfl cd124 rfl rfl rfl (by simp;rfl) (by simp;rfl) ?_
 refine wa_ (wc_region (w_ (a_ (h:=wo_nil (e_ (h:=aft_normal (wa_ (wc_region (w_ (m_ (h:=w_ (m_ (h:=w_ (cP (hc:=e_next c a n hc ha (by omega)) (h:=w_ (bE (h:=w_ (a_ (h:=?_)))))))))))))))))))
 refine wo_nil (e_ (h:=aft_normal (wc_ret (?_))))
 all_goals (refine fin_ (hr:=(res_tmp rfl res_nil)) (h:=?_);(focus (simp [srcV])))
def cellD (c : List Int) (a : Nat) : Int := at0 [nxtV c a 4,nxtV c (a + 1) 4,nxtV c (a + 2) 4,IntKind.i64.wrap (-nxtV c (a + 3) 5),nxtV c (a + 4) 90000] (nxtV c (a + 5) 5)
theorem e_cell (c : List Int) (a : Nat) (hc : okS c) (ha : a < 900000000) : oc.call 249 [.iop (srcV c a)] = some (.int .i64 (cellD c a),[srcV c (a + 6)]) := by
 refine fun_s rfl cd249 rfl rfl rfl (by simp;rfl) (by simp;rfl) ?_
 refine wa_ (wc_region (w_ (a_ (h:=wo_nil (e_ (h:=aft_normal (wa_ (wc_region (w_ (m_ (h:=w_ (m_ (h:=w_ (cP (hc:=e_next c a 4 hc (by omega) (by omega)) (h:=w_ (m_ (h:=w_ (cP (hc:=e_next c (a + 1) 4 hc (by omega) (by omega)) (h:=?_)))))))))))))))))))
 refine w_ (m_ (h:=w_ (cP (hc:=e_next c (a + 2) 4 hc (by omega) (by omega)) (h:=w_ (m_ (h:=w_ (cP (hc:=e_next c (a + 3) 5 hc (by omega) (by omega)) (h:=w_ (u_ (h:=w_ (m_ (h:=w_ (cP (hc:=e_next c (a + 4) 90000 hc (by omega) (by omega)) (h:=w_ (bs (h:=w_ (cPT (hc:=e_pick c (a + 5) [nxtV c a 4,nxtV c (a + 1) 4,nxtV c (a + 2) 4,IntKind.i64.wrap (-nxtV c (a + 3) 5),nxtV c (a + 4) 90000] hc (by omega) (by simp) (by simp)) (h:=w_ (a_ (h:=wo_nil (e_ (h:=aft_normal (?_)))))))))))))))))))))))
 refine wc_ret (?_)
 all_goals (refine fin_ (hr:=(res_tmp rfl res_nil)) (h:=?_);(focus (simp [cellD])))
def rowD (c : List Int) : Nat → Nat → List Int
  | 0,_ => []
  | n + 1,a => cellD c a :: rowD c n (a + 6)
@[simp] theorem rowD_len (c : List Int) : ∀ (n a : Nat),(rowD c n a).length = n
  | 0,_ => rfl
  | n + 1,a => by simp [rowD,rowD_len c n (a + 6)]
theorem l_rowD (c : List Int) (hc : okS c) : ∀ x : Nat × Nat × (List Int),(x.1 < 1000000 ∧ x.2.1 + 6 * x.1 < 900000000 ∧ x.2.2.length + x.1 < 1000000) → ∀ s,normE 2 (some [0,1,5]) s = ⟨[(0,.ptr 0 0 []),(1,.int .i64 x.1),(5,.ref 2 0 x.2.2.length)],[(0,⟨true,true,2,[srcV c x.2.1],0⟩),(2,⟨false,false,1,ints x.2.2,0⟩)],3⟩ →
 oc.loop 227 2 s = some (.exit 0,⟨[(5,.ref 2 0 (x.2.2 ++ rowD c x.1 x.2.1).length)],[(0,⟨true,true,2,[srcV c (x.2.1 + 6 * x.1)],0⟩),(2,⟨false,false,1,ints (x.2.2 ++ rowD c x.1 x.2.1),0⟩)],3⟩) := by
 refine loop_ind (σ:=Nat × Nat × (List Int)) (fun x => x.1) _ (fun x => ⟨[(0,.ptr 0 0 []),(1,.int .i64 x.1),(5,.ref 2 0 x.2.2.length)],[(0,⟨true,true,2,[srcV c x.2.1],0⟩),(2,⟨false,false,1,ints x.2.2,0⟩)],3⟩) _ ?_
 rintro ⟨n,a,l⟩ hi ih s hs
 simp only at hi
 refine loop_s cd227 rfl rfl hs ?_
 obtain ⟨hi1,hi2,hi3⟩ := hi
 refine wa_ (wa_ (wc_region (w_ (m_ (h:=w_ (b_ (h:=wo_nil (e_ (h:=aft_normal (?_))))))))))
 refine c_ (h1:=?_) (h2:=?_)
 rotate_right 1
 focus
  intro c1
  first
  | exact dn c1
  | (
   have d1 := c1;try simp at d1
   refine wc_exit (?_)
   )
 rotate_right 1
 focus
  intro c1
  first
  | exact dn c1
  | (
   have d1 := c1;try simp at d1
   have hj : 0 < n := (by simp at c1;omega);obtain ⟨k,rfl⟩ : ∃ k,n = k + 1 := ⟨n - 1,by omega⟩
   refine wc_skip (?_)
   )
 all_goals first
 | refine aft_exit ?_
 | (
  refine aft_normal ?_
  refine wa_ (wc_block (wc_region (w_ (m_ (h:=w_ (m_ (h:=w_ (cP (hc:=e_cell c a hc (by omega)) (h:=w_ (bs (h:=w_ (ap (h:=w_ (a_ (h:=wo_nil (e_ (h:=blk_normal (aft_normal (?_)))))))))))))))))))
  refine wc_region (w_ (m_ (h:=w_ (?_))))
  refine b_ (hv:=iv_sub (c:=k) (by simp) (by omega)) (h:=?_)
  refine w_ (a_ (h:=wo_nil (e_ (h:=?_))))
  )
 all_goals first
 | (apply end_leaf (ex:=(Ext.exit 0)) 2 (some [5]);(focus (simp [normE];rfl));(focus (obtain rfl : n = 0 := (by simp at c1;omega);simp [rowD])))
 | (refine (ih ((k,a + 6,l ++ [cellD c a])) (⟨by simp only;omega,by simp only;omega,by simp;omega⟩) ?_ _ ?_).trans ?_;(focus (first | omega | (simp;done) | (simp;omega)));(focus (simp [normE,rowD];done));(focus (simp [rowD,show a + 6 + 6 * k = a + 6 * (k + 1) by omega])))
theorem e_rowD (c : List Int) (n a : Nat) (hc : okS c) (hn : n < 1000000) (ha : a + 6 * n < 900000000) : oc.call 227 [.iop (srcV c a),.int .i64 n] = some (.lst true 1 (ints (rowD c n a)),[srcV c (a + 6 * n)]) := by
 refine fun_s rfl cd227 rfl rfl rfl (by simp;rfl) (by simp;rfl) ?_
 have hT : (rowD c n a).take n = rowD c n a := List.take_of_length_le (by simp)
 refine wa_ (wc_region (w_ (aN (h:=wo_nil (e_ (h:=aft_normal (wa_ (wc_region (w_ (bs (h:=w_ (a_ (h:=wo_nil (e_ (h:=aft_normal (wa_ (?_)))))))))))))))))
 refine wc_block (?_)
 refine wc_loop (l_rowD c hc (n,a,[]) ⟨by simp only;omega,by simp only;omega,by simp;omega⟩ _ (by simp [normE])) ?_
 refine blk_exit (aft_normal (wa_ (wc_region (w_ (m_ (h:=w_ (a_ (h:=wo_nil (e_ (h:=aft_normal (wc_ret (?_))))))))))))
 all_goals (refine fin_ (hr:=(res_tmp rfl res_nil)) (h:=?_);(focus (simp [hT])))
def sixL : List Int := [1000000000,-1000000000,1000000001,-1000000001,4611686018427387904,-9223372036854775808]
def bentP (c : List Int) (a n : Nat) : List Int × Nat :=
  if 0 < n then (if nxtV c (a + 1 + 6 * n) 12 = 0 then ((rowD c n (a + 1)).set 0 (at0 sixL (nxtV c (a + 1 + 6 * n + 1) 6)),a + 1 + 6 * n + 1 + 1) else (rowD c n (a + 1),a + 1 + 6 * n + 1)) else (rowD c n (a + 1),a + 1 + 6 * n)
def bentR (c : List Int) (a : Nat) : List Int × Nat :=
  if nxtV c (bentP c a (nxtV c a 5).toNat).2 24 = 0 then (rowD c 5 ((bentP c a (nxtV c a 5).toNat).2 + 1),(bentP c a (nxtV c a 5).toNat).2 + 1 + 6 * 5) else ((bentP c a (nxtV c a 5).toNat).1,(bentP c a (nxtV c a 5).toNat).2 + 1)
theorem bentR_in (c : List Int) (a : Nat) : (bentR c a).1.length ≤ 5 ∧ (bentR c a).2 ≤ a + 100 := by
  obtain ⟨h1,h2⟩ := nxtV_in (c:=c) (a:=a) (n:=5) (by omega)
  obtain ⟨n,hn⟩ : ∃ n : Nat,(nxtV c a 5).toNat = n := ⟨_,rfl⟩
  have h3 : n < 5 := by omega
  have hp : (bentP c a n).1.length = n ∧ (bentP c a n).2 ≤ a + 40 := by
    unfold bentP;split
    · split
      · exact ⟨by simp,by simp only;omega⟩
      · exact ⟨by simp,by simp only;omega⟩
    · exact ⟨by simp,by simp only;omega⟩
  unfold bentR;rw [hn]
  split
  · exact ⟨by simp,by simp only;omega⟩
  · exact ⟨by simp only;omega,by simp only;omega⟩
theorem e_bentR (c : List Int) (a : Nat) (hc : okS c) (ha : a < 800000000) : oc.call 183 [.iop (srcV c a)] = some (.lst true 1 (ints (bentR c a).1),[srcV c (bentR c a).2]) := by
 refine fun_s rfl cd183 rfl rfl rfl (by simp;rfl) (by simp;rfl) ?_
 obtain ⟨h1,h2⟩ := nxtV_in (c:=c) (a:=a) (n:=5) (by omega)
 obtain ⟨n,hn⟩ : ∃ n : Nat,(nxtV c a 5).toNat = n := ⟨_,rfl⟩
 have hn5 : nxtV c a 5 = (n : Int) := by omega
 have hnl : n < 5 := by omega
 have hT : (rowD c n (a + 1)).take n = rowD c n (a + 1) := List.take_of_length_le (by simp)
 have hT2 : ∀ x,((rowD c n (a + 1)).set 0 x).take n = (rowD c n (a + 1)).set 0 x := fun x => List.take_of_length_le (by simp)
 have hT3 : ∀ b,(rowD c 5 b).take 5 = rowD c 5 b := fun b => List.take_of_length_le (by simp)
 have hnx : oc.call 98 [.iop (srcV c a),.int .i64 5] = some (.int .i64 n,[srcV c (a + 1)]) := by rw [← hn5];exact e_next c a 5 hc (by omega) (by omega)
 have h6 : sixL.length = 6 := rfl
 refine wa_ (wc_region (w_ (aN (h:=wo_nil (e_ (h:=aft_normal (wa_ (wc_region (w_ (m_ (h:=w_ (m_ (h:=w_ (cP (hc:=hnx) (h:=w_ (cP (hc:=e_rowD c n (a + 1) hc (by omega) (by omega)) (h:=w_ (a_ (h:=?_)))))))))))))))))))
 refine wo_nil (e_ (h:=aft_normal (wa_ (wa_ (wc_region (w_ (m_ (h:=w_ (le (h:=w_ (b_ (h:=w_ (m_ (h:=?_))))))))))))))
 refine gw_ (h1:=?_) (h2:=?_)
 rotate_right 1
 focus
  intro c1
  first
  | exact dn c1
  | (
   have d1 := c1;try simp at d1
   have hnn : ¬ 0 < n := (by omega);clear d1
   refine go_ (h:=go_ (h:=?_))
   )
 rotate_right 1
 focus
  intro c1
  first
  | exact dn c1
  | (
   have d1 := c1;try simp at d1
   have g0 : (ints (rowD c n (a + 1)))[0]? = some (.int .i64 (cellD c (a + 1))) := (by obtain ⟨m,rfl⟩ : ∃ m,n = m + 1 := ⟨n - 1,by omega⟩;rfl);have g0b : ∀ h : 0 < (ints (rowD c n (a + 1))).length,(ints (rowD c n (a + 1)))[0] = .int .i64 (cellD c (a + 1)) := (fun h => by rw [List.getElem?_eq_getElem h] at g0;exact Option.some.inj g0)
   refine g_ (h:=w_ (m_ (h:=g_ (h:=w_ (cP (hc:=e_chance c (a + 1 + 6 * n) 12 hc (by omega) (by omega)) (h:=?_))))))
   )
 all_goals
  refine w_ (pk (h:=wo_nil (e_ (h:=?_))))
 all_goals first
 | (
  refine aft_normal ?_
  refine c_ (h1:=?_) (h2:=?_)
  rotate_right 1
  focus
   intro c2
   first
   | exact dn c2
   | (
    have d2 := c2;try simp at d2
    refine wc_skip (?_)
    )
  rotate_right 1
  focus
   intro c2
   first
   | exact dn c2
   | (
    have d2 := c2;try simp at d2
    refine wc_region (w_ (m_ (h:=w_ (m_ (h:=w_ (bs (h:=w_ (cPT (hc:=e_pick c (a + 1 + 6 * n + 1) sixL hc (by omega) (by simp [sixL]) (by simp [sixL])) (h:=w_ (x_ (h:=w0 (s_ (h:=wo_nil (e_ (h:=?_)))))))))))))))
    )
  )
 all_goals first
 | (
  refine aft_normal ?_
  refine wa_ (wa_ (wc_region (w_ (m_ (h:=?_)))))
  first | refine w_ (cP (hc:=e_chance c (a + 1 + 6 * n) 24 hc (by omega) (by omega)) (h:=?_)) | refine w_ (cP (hc:=e_chance c (a + 1 + 6 * n + 1) 24 hc (by omega) (by omega)) (h:=?_)) | refine w_ (cP (hc:=e_chance c (a + 1 + 6 * n + 1 + 1) 24 hc (by omega) (by omega)) (h:=?_))
  refine wo_nil (e_ (h:=aft_normal (?_)))
  refine c_ (h1:=?_) (h2:=?_)
  rotate_right 1
  focus
   intro c3
   first
   | exact dn c3
   | (
    have d3 := c3;try simp at d3
    refine wc_skip (?_)
    )
  rotate_right 1
  focus
   intro c3
   first
   | exact dn c3
   | (
    have d3 := c3;try simp at d3
    refine wc_region (w_ (m_ (h:=?_)))
    first | refine w_ (cP (hc:=e_rowD c 5 (a + 1 + 6 * n + 1) hc (by omega) (by omega)) (h:=?_)) | refine w_ (cP (hc:=e_rowD c 5 (a + 1 + 6 * n + 1 + 1) hc (by omega) (by omega)) (h:=?_)) | refine w_ (cP (hc:=e_rowD c 5 (a + 1 + 6 * n + 1 + 1 + 1) hc (by omega) (by omega)) (h:=?_))
    refine w_ (a_ (h:=wo_nil (e_ (h:=?_))))
    )
  all_goals first
  | (
   refine aft_normal ?_
   refine wa_ (wc_region (w_ (m_ (h:=w_ (a_ (h:=wo_nil (e_ (h:=aft_normal (wc_ret (?_))))))))))
   )
  )
 all_goals (refine fin_ (hr:=(res_tmp rfl res_nil)) (h:=?_);(focus (unfold bentR bentP;rw [hn];simp [*])))
end Go.Proofs.Ytgkbmiaimjpbfaa.Ev
namespace Go.Proofs.Ytgkbmiaimjpbfaa.Ev
open Go
set_option maxRecDepth 100000
set_option linter.unusedSimpArgs false
set_option linter.unusedVariables false
set_option maxHeartbeats 2000000
theorem wrap_ac {x a b : Int} : IntKind.i64.wrap (IntKind.i64.wrap (x + a) + b) = IntKind.i64.wrap (IntKind.i64.wrap (x + b) + a) := by
  unfold IntKind.wrap;simp [IntKind.bits,IntKind.signed];omega
theorem wrap_c {a b : Int} : IntKind.i64.wrap (a + b) = IntKind.i64.wrap (b + a) := by rw [Int.add_comm]
end Go.Proofs.Ytgkbmiaimjpbfaa.Ev
namespace Go.Proofs.Ytgkbmiaimjpbfaa.Ev
set_option linter.unusedSectionVars false
section
variable {α : Type} [Inhabited α]
structure Sums (lt : α → α → Bool) (add : α → α → α) : Prop where
  o : Ordr lt
  ltl : ∀ {x c d},lt (add x c) d = lt x d
  ltr : ∀ {x c d},lt d (add x c) = lt d x
  cm : ∀ {a b},lt a b = false → lt b a = false → add a b = add b a
  ac : ∀ {x a b},add (add x a) b = add (add x b) a
variable {lt : α → α → Bool} {add : α → α → α}
def putG (lt : α → α → Bool) (add : α → α → α) : List α → α → List α
  | [],c => [c]
  | x :: r,c => if lt x c = true then x :: putG lt add r c else if lt c x = true then c :: x :: r else add x c :: r
theorem putG_cons (x : α) (r : List α) (c : α) : putG lt add (x :: r) c = if lt x c = true then x :: putG lt add r c else if lt c x = true then c :: x :: r else add x c :: r := rfl
theorem Ordr.lle (O : Ordr lt) {a b c : α} (h1 : lt a b = true) (h2 : lt c b = false) : lt a c = true := by
  cases h : lt a c
  · exact absurd (O.ntr h2 h) (by simp [h1])
  · rfl
theorem Ordr.lel (O : Ordr lt) {a b c : α} (h1 : lt b a = false) (h2 : lt b c = true) : lt a c = true := by
  cases h : lt a c
  · exact absurd (O.ntr h h1) (by simp [h2])
  · rfl
theorem Ordr.tr (O : Ordr lt) {a b c : α} (h1 : lt a b = true) (h2 : lt b c = true) : lt a c = true := O.lle h1 (O.asym h2)
theorem putG_comm (S : Sums lt add) : ∀ (l : List α) (a b : α),putG lt add (putG lt add l a) b = putG lt add (putG lt add l b) a
  | [],a,b => by
    show putG lt add [a] b = putG lt add [b] a
    rw [putG_cons,putG_cons]
    cases h1 : lt a b <;> cases h2 : lt b a
    · simp [S.cm h1 h2]
    · simp [putG]
    · simp [putG]
    · rw [S.o.asym h1] at h2;cases h2
  | x :: r,a,b => by
    have ih := putG_comm S r a b
    rw [putG_cons,putG_cons]
    cases a1 : lt x a <;> cases a2 : lt a x <;> cases b1 : lt x b <;> cases b2 : lt b x
    all_goals first
      | (rw [S.o.asym a1] at a2;cases a2;done)
      | (rw [S.o.asym b1] at b2;cases b2;done)
      | (simp only [Bool.false_eq_true,if_false,if_true,putG_cons,S.ltl,S.ltr,a1,a2,b1,b2,ih,S.ac];done)
      | skip
    all_goals (cases e : lt a b <;> cases e' : lt b a)
    all_goals first
      | (simp only [Bool.false_eq_true,if_false,if_true,putG_cons,S.ltl,S.ltr,a1,a2,b1,b2,e,e',ih,S.ac];done)
      | (exfalso;have n1 := @Ordr.ntr _ _ S.o a x b;have n2 := @Ordr.ntr _ _ S.o b x a;have n3 := @Ordr.ntr _ _ S.o x a b;have n4 := @Ordr.ntr _ _ S.o x b a;have n5 := @Ordr.ntr _ _ S.o a b x;have n6 := @Ordr.ntr _ _ S.o b a x;have n7 := @Ordr.asym _ _ S.o a b;simp only [a1,a2,b1,b2,e,e'] at n1 n2 n3 n4 n5 n6 n7;simp_all;done)
      | (simp only [Bool.false_eq_true,if_false,if_true,putG_cons,S.ltl,S.ltr,a1,a2,b1,b2,e,e',S.cm e e'];done)
theorem putG_perm (S : Sums lt add) {l1 l2 : List α} (p : l1.Perm l2) : ∀ acc : List α,l1.foldl (putG lt add) acc = l2.foldl (putG lt add) acc := by
  induction p with
  | nil => intro acc;rfl
  | cons x _ ih => intro acc;exact ih _
  | swap x y l => intro acc;simp only [List.foldl_cons];rw [putG_comm S]
  | trans _ _ ih1 ih2 => intro acc;rw [ih1,ih2]
theorem putG_last {x c : α} (hx : lt c x = false) : ∀ {init : List α},(∀ y ∈ init,lt y c = true) → putG lt add (init ++ [x]) c = if lt x c = true then init ++ [x,c] else init ++ [add x c]
  | [],_ => by
    show putG lt add [x] c = _
    rw [putG_cons]
    by_cases h : lt x c = true
    · rw [if_pos h,if_pos h];rfl
    · rw [if_neg h,if_neg h,if_neg (by simp [hx])];rfl
  | y :: r,h => by
    rw [List.cons_append,putG_cons,if_pos (h y (List.mem_cons_self ..)),putG_last hx (fun z hz => h z (List.mem_cons_of_mem _ hz))]
    by_cases h : lt x c = true
    · rw [if_pos h,if_pos h];rfl
    · rw [if_neg h,if_neg h];rfl
theorem runsG_inv (U : Sums lt add) {S : List α} (hS : Srt lt 0 S.length S) : ∀ i,i < S.length → ∃ init x,(S.take (i + 1)).foldl (putG lt add) [] = init ++ [x] ∧ (∀ d,lt x d = lt (nth S i) d ∧ lt d x = lt d (nth S i)) ∧ ∀ y ∈ init,lt y (nth S i) = true
  | 0,h => by
    refine ⟨[],nth S 0,?_,fun _ => ⟨rfl,rfl⟩,fun y hy => by cases hy⟩
    rw [List.take_add_one,nth_get h];rfl
  | i + 1,h => by
    obtain ⟨init,x,e,e1,hy⟩ := runsG_inv U hS i (by omega)
    have hle := hS i (i + 1) (by omega) (by omega) h
    have hxc : lt (nth S (i + 1)) x = false := by rw [(e1 _).2];exact hle
    have hall : ∀ y ∈ init,lt y (nth S (i + 1)) = true := fun y h1 => U.o.lle (hy y h1) hle
    rw [List.take_add_one,nth_get h,List.foldl_append,e]
    show ∃ init' x',putG lt add (init ++ [x]) (nth S (i + 1)) = init' ++ [x'] ∧ _
    rw [putG_last hxc hall]
    by_cases hc : lt x (nth S (i + 1)) = true
    · rw [if_pos hc]
      refine ⟨init ++ [x],nth S (i + 1),by simp,fun _ => ⟨rfl,rfl⟩,fun y h1 => ?_⟩
      rcases List.mem_append.1 h1 with h1 | h1
      · exact hall y h1
      · rw [List.mem_singleton.1 h1];exact hc
    · rw [if_neg hc]
      simp only [Bool.not_eq_true] at hc
      refine ⟨init,add x (nth S (i + 1)),rfl,fun d => ⟨?_,?_⟩,hall⟩
      · rw [U.ltl]
        cases h1 : lt x d <;> cases h2 : lt (nth S (i + 1)) d <;> first | rfl | skip
        · exact absurd (U.o.lel hxc h2) (by simp [h1])
        · exact absurd (U.o.lel hc h1) (by simp [h2])
      · rw [U.ltr]
        cases h1 : lt d x <;> cases h2 : lt d (nth S (i + 1)) <;> first | rfl | skip
        · exact absurd (U.o.lle h2 hc) (by simp [h1])
        · exact absurd (U.o.lle h1 hxc) (by simp [h2])
theorem runG_new (U : Sums lt add) {S : List α} (hS : Srt lt 0 S.length S) {i : Nat} (h : i < S.length) (hc : i = 0 ∨ lt (nth S (i - 1)) (nth S i) = true) :
    (S.take (i + 1)).foldl (putG lt add) [] = (S.take i).foldl (putG lt add) [] ++ [nth S i] := by
  have hst : S.take (i + 1) = S.take i ++ [nth S i] := by rw [List.take_add_one,nth_get h];rfl
  rw [hst,List.foldl_append]
  rcases Nat.eq_zero_or_pos i with rfl | hi
  · rfl
  · obtain ⟨init,x,e,e1,hy⟩ := runsG_inv U hS (i - 1) (by omega)
    rw [show i - 1 + 1 = i by omega] at e
    have hlt : lt (nth S (i - 1)) (nth S i) = true := by rcases hc with h | h <;> first | omega | exact h
    rw [e]
    show putG lt add (init ++ [x]) (nth S i) = _
    rw [putG_last (by rw [(e1 _).2];exact U.o.asym hlt) (fun y h1 => U.o.tr (hy y h1) hlt),if_pos (by rw [(e1 _).1];exact hlt)]
    simp
theorem runG_old (U : Sums lt add) {S : List α} (hS : Srt lt 0 S.length S) {i : Nat} (h : i < S.length) (hi : 0 < i) (hc : lt (nth S (i - 1)) (nth S i) = false) :
    ∃ init x,(S.take i).foldl (putG lt add) [] = init ++ [x] ∧ (S.take (i + 1)).foldl (putG lt add) [] = init ++ [add x (nth S i)] ∧ (∀ d,lt x d = lt (nth S (i - 1)) d ∧ lt d x = lt d (nth S (i - 1))) := by
  have hst : S.take (i + 1) = S.take i ++ [nth S i] := by rw [List.take_add_one,nth_get h];rfl
  obtain ⟨init,x,e,e1,hy⟩ := runsG_inv U hS (i - 1) (by omega)
  rw [show i - 1 + 1 = i by omega] at e
  have hle := hS (i - 1) i (by omega) (by omega) h
  refine ⟨init,x,e,?_,e1⟩
  rw [hst,List.foldl_append,e]
  show putG lt add (init ++ [x]) (nth S i) = _
  rw [putG_last (by rw [(e1 _).2];exact hle) (fun y h1 => U.o.lle (hy y h1) hle),if_neg (by rw [(e1 _).1,hc];simp)]
theorem putG_len : ∀ (l : List α) (c : α),(putG lt add l c).length ≤ l.length + 1
  | [],_ => by simp [putG]
  | x :: r,c => by
    have ih := putG_len r c
    rw [putG_cons]
    split
    · simpa using ih
    · split <;> simp
theorem foldG_len {S : List α} : ∀ {acc : List α},(S.foldl (putG lt add) acc).length ≤ acc.length + S.length := by
  induction S with
  | nil => intro acc;simp
  | cons c l ih =>
    intro acc
    have h1 := ih (acc:=putG lt add acc c)
    have h2 := putG_len (lt:=lt) (add:=add) acc c
    simp only [List.foldl_cons,List.length_cons] at *
    omega
theorem putG_sorted : ∀ (l acc : List α),(acc ++ l).Pairwise (fun x y => lt x y = true) → l.foldl (putG lt add) acc = acc ++ l
  | [],acc,_ => by simp
  | c :: l,acc,h => by
    have hacc : ∀ y ∈ acc,lt y c = true := fun y hy => (List.pairwise_append.1 h).2.2 y hy c (List.mem_cons_self ..)
    have hput : putG lt add acc c = acc ++ [c] := by
      clear h
      induction acc with
      | nil => rfl
      | cons y r ih => rw [putG_cons,if_pos (hacc y (List.mem_cons_self ..)),ih (fun z hz => hacc z (List.mem_cons_of_mem _ hz))];rfl
    rw [List.foldl_cons,hput,putG_sorted l (acc ++ [c]) (by simpa using h)]
    simp
theorem putG_mem {P : α → Prop} (ha : ∀ x c,P x → P c → P (add x c)) : ∀ {l : List α} {c : α},(∀ x ∈ l,P x) → P c → ∀ x ∈ putG lt add l c,P x
  | [],c,_,hc,x,hx => by rw [List.mem_singleton.1 hx];exact hc
  | y :: r,c,hl,hc,x,hx => by
    rw [putG_cons] at hx
    split at hx
    · rcases List.mem_cons.1 hx with rfl | hx
      · exact hl _ (List.mem_cons_self ..)
      · exact putG_mem ha (fun z hz => hl z (List.mem_cons_of_mem _ hz)) hc x hx
    · split at hx
      · rcases List.mem_cons.1 hx with rfl | hx
        · exact hc
        · exact hl x hx
      · rcases List.mem_cons.1 hx with rfl | hx
        · exact ha _ _ (hl _ (List.mem_cons_self ..)) hc
        · exact hl x (List.mem_cons_of_mem _ hx)
theorem foldG_mem {P : α → Prop} (ha : ∀ x c,P x → P c → P (add x c)) : ∀ {S acc : List α},(∀ x ∈ acc,P x) → (∀ x ∈ S,P x) → ∀ x ∈ S.foldl (putG lt add) acc,P x
  | [],_,h1,_,x,hx => h1 x hx
  | c :: S,acc,h1,h2,x,hx => foldG_mem ha (S:=S) (acc:=putG lt add acc c) (putG_mem ha h1 (h2 c (List.mem_cons_self ..))) (fun z hz => h2 z (List.mem_cons_of_mem _ hz)) x hx
def posG (lt : α → α → Bool) : List α → α → Nat
  | [],_ => 0
  | x :: r,c => if lt x c = true then posG lt r c + 1 else 0
theorem posG_le : ∀ (l : List α) (c : α),posG lt l c ≤ l.length
  | [],_ => by simp [posG]
  | x :: r,c => by
    have := posG_le r c
    unfold posG;split <;> simp <;> omega
theorem posG_t {x : α} {r : List α} {c : α} (h : lt x c = true) : posG lt (x :: r) c = posG lt r c + 1 := by rw [posG,if_pos h]
theorem posG_f {x : α} {r : List α} {c : α} (h : lt x c = false) : posG lt (x :: r) c = 0 := by rw [posG,if_neg (by simp [h])]
theorem posG_no : ∀ (l : List α) (c : α),posG lt l c < l.length → lt (nth l (posG lt l c)) c = false
  | [],c,h => by simp [posG] at h
  | x :: r,c,h => by
    by_cases hx : lt x c = true
    · rw [posG_t hx] at h ⊢
      have := posG_no r c (by simpa using h)
      simpa [nth] using this
    · rw [posG_f (by simpa using hx)]
      simpa [nth] using hx
theorem putG_at : ∀ (l : List α) (c : α),posG lt l c < l.length → lt c (nth l (posG lt l c)) = false → putG lt add l c = l.set (posG lt l c) (add (nth l (posG lt l c)) c)
  | [],c,h,_ => by simp [posG] at h
  | x :: r,c,h,h2 => by
    rw [putG_cons]
    by_cases hx : lt x c = true
    · rw [posG_t hx] at h h2 ⊢
      rw [if_pos hx,putG_at r c (by simpa using h) (by simpa [nth] using h2)]
      simp [nth]
    · rw [posG_f (by simpa using hx)] at h2 ⊢
      have h3 : lt c x = false := by simpa [nth] using h2
      rw [if_neg hx,if_neg (by simp [h3])]
      simp [nth]
theorem putG_in : ∀ (l : List α) (c : α),(posG lt l c < l.length → lt c (nth l (posG lt l c)) = true) → putG lt add l c = l.take (posG lt l c) ++ [c] ++ l.drop (posG lt l c)
  | [],c,_ => rfl
  | x :: r,c,h2 => by
    rw [putG_cons]
    by_cases hx : lt x c = true
    · rw [posG_t hx] at h2 ⊢
      rw [if_pos hx,putG_in r c (fun h => by simpa [nth] using h2 (by simpa using h))]
      simp
    · rw [posG_f (by simpa using hx)] at h2 ⊢
      have h3 : lt c x = true := by simpa [nth] using h2 (by simp)
      rw [if_neg hx,if_pos h3];rfl
end
end Go.Proofs.Ytgkbmiaimjpbfaa.Ev
namespace Go.Proofs.Ytgkbmiaimjpbfaa.Ev
open Go
set_option maxRecDepth 100000
set_option linter.unusedSimpArgs false
set_option linter.unusedVariables false
set_option maxHeartbeats 2000000
structure Er where
  row : List Int
  w : Int
  ok : row.length < 2000000
def Er.e (x : Er) : Et := ⟨x.row,x.w⟩
def ers (l : List Er) : List V := ets false (l.map Er.e)
instance : Inhabited Er := ⟨⟨[],0,by decide⟩⟩
@[simp] theorem ers_len (l : List Er) : (ers l).length = l.length := by simp [ers]
theorem ers_nth {r : List Er} {j : Nat} (h : j < r.length) : (ers r)[j]? = some ((nth r j).e.v false) := by
  simp [ers,ets,nth_get h]
@[simp] theorem ers_setS {r : List Er} {j : Nat} {x : Er} : (ers r).set j (x.e.v false) = ers (r.set j x) := by simp [ers,List.map_set]
theorem ets_alk : ∀ {l m : List Et},l.length = m.length → V.alikeL (ets false l) (ets false m) = true
  | [],[],_ => rfl
  | [],_ :: _,h => by cases h
  | _ :: _,[],h => by cases h
  | x :: l,y :: m,h => by
    have ih := ets_alk (l:=l) (m:=m) (by simpa using h)
    simp only [ets_cons,V.alikeL]
    rw [ih];rfl
theorem ers_alk {l m : List Er} (h : l.length = m.length) : V.alikeL (ers l) (ers m) = true := ets_alk (by simpa using h)
@[simp] theorem Et.ne_undE (t : Bool) (x : Et) : (x.v t = V.und) = False := by simp [Et.v]
theorem cmpL_tr : ∀ {z y x : List Int},0 ≤ cmpL z y → 0 ≤ cmpL y x → 0 ≤ cmpL z x
  | [],[],_,_,h => h
  | [],_ :: _,_,h,_ => by simp [cmpL] at h
  | _ :: _,_,[],_,_ => by simp [cmpL]
  | _ :: _,[],_ :: _,_,h => by simp [cmpL] at h
  | a :: z,b :: y,c :: x,h1,h2 => by
    have ih := @cmpL_tr z y x
    simp only [cmpL] at h1 h2 ⊢
    grind
def byE (a b : Er) : Int := cmpL a.row b.row
theorem e_byE (a b : Er) : oc.call 176 [a.e.v false,b.e.v false] = some (.int .i64 (byE a b),[]) := by
 refine fun_s rfl cd176 rfl rfl rfl (by simp;rfl) (by simp;rfl) ?_
 have ha := a.ok
 have hb := b.ok
 have hin := cmpL_in a.row b.row
 refine wa_ (wc_region (w_ (bx (h:=w_ (bx (h:=w_ (a_ (h:=wo_nil (e_ (h:=aft_normal (wa_ (wc_region (w_ (f_ (h:=w_ (l_ (h:=w_ (f_ (h:=?_)))))))))))))))))))
 refine w_ (l_ (h:=w_ (ca (hc:=e_cmpRI a.row b.row ha hb) (h:=w_ (a_ (h:=wo_nil (e_ (h:=aft_normal (wc_ret (?_))))))))))
 all_goals (refine fin_ (hr:=(res_tmp rfl res_nil)) (h:=?_);(focus (first | rfl | (simp [byE];done) | (simp [byE];exact wrap_id (by omega) (by omega)))))
def ltE (a b : Er) : Bool := decide (byE a b < 0)
theorem ltE_t {a b : Er} : ltE a b = true ↔ cmpL a.row b.row < 0 := by unfold ltE;rw [decide_eq_true_eq];exact Iff.rfl
theorem ltE_f {a b : Er} : ltE a b = false ↔ 0 ≤ cmpL a.row b.row := by unfold ltE;rw [decide_eq_false_iff_not];exact Int.not_lt
theorem O_ltE : Ordr ltE := by
  refine ⟨fun {x y} h => ?_,fun {x y z} h1 h2 => ?_⟩
  · have := cmpL_anti x.row y.row
    rw [ltE_t] at h;rw [ltE_f];omega
  · rw [ltE_f] at *
    exact cmpL_tr h2 h1
def addE (x c : Er) : Er := ⟨x.row,IntKind.i64.wrap (x.w + c.w),x.ok⟩
theorem ltE_eq {a b : Er} (h1 : ltE a b = false) (h2 : ltE b a = false) : a.row = b.row := by
  have := cmpL_anti a.row b.row
  rw [ltE_f] at *
  exact cmpL_eq.1 (by omega)
theorem U_ltE : Sums ltE addE := by
  refine ⟨O_ltE,fun {x c d} => rfl,fun {x c d} => rfl,fun {a b} h1 h2 => ?_,fun {x a b} => ?_⟩
  · have := ltE_eq h1 h2
    cases a;cases b
    simp only [addE,Er.mk.injEq] at *
    exact ⟨this,wrap_c⟩
  · simp only [addE,Er.mk.injEq,true_and]
    exact wrap_ac
theorem run_ltE {S : List Er} (hS : Srt ltE 0 S.length S) {i : Nat} (hi : i < S.length) (h : byE (nth S (i - 1)) (nth S i) ≠ 0) : ltE (nth S (i - 1)) (nth S i) = true := by
  have h1 := hS (i - 1) i (by omega) (by omega) hi
  rw [ltE_f] at h1
  rw [ltE_t]
  have := cmpL_anti (nth S (i - 1)).row (nth S i).row
  unfold byE at h
  omega
theorem ers_of : ∀ {l : List Et},(∀ x ∈ l,x.row.length < 2000000) → ∃ r : List Er,r.map Er.e = l
  | [],_ => ⟨[],rfl⟩
  | x :: l,h => by
    obtain ⟨r,hr⟩ := ers_of (l:=l) (fun y hy => h y (List.mem_cons_of_mem _ hy))
    exact ⟨⟨x.row,x.w,h x (List.mem_cons_self ..)⟩ :: r,by simp [hr,Er.e]⟩
theorem l_bubC_E (a b i N : Nat) (hN : N < 2000000) (hb : b ≤ N) (hai : a < i) (hib : i < b) : ∀ x : Nat × (List Er),(a ≤ x.1 ∧ x.1 ≤ i ∧ x.2.length = N) → ∀ s,normE 4 (some [0,1,2,3,8,9]) s = ⟨[(0,.ref 0 0 N),(1,.int .i64 a),(2,.int .i64 b),(3,.clo 176 []),(8,.int .i64 i),(9,.int .i64 x.1)],[(0,⟨false,true,2,ers x.2,0⟩)],4⟩ →
 oc.loop 247 4 s = some (.exit 2,⟨[(0,.ref 0 0 N),(1,.int .i64 a),(2,.int .i64 b),(3,.clo 176 []),(8,.int .i64 i)],[(0,⟨false,true,2,ers (bub ltE a x.1 x.2),0⟩)],4⟩) := by
 refine loop_ind (σ:=Nat × (List Er)) (fun x => x.1) _ (fun x => ⟨[(0,.ref 0 0 N),(1,.int .i64 a),(2,.int .i64 b),(3,.clo 176 []),(8,.int .i64 i),(9,.int .i64 x.1)],[(0,⟨false,true,2,ers x.2,0⟩)],4⟩) _ ?_
 rintro ⟨j,r⟩ hi ih s hs
 simp only at hi
 refine loop_s cd247 rfl rfl hs ?_
 obtain ⟨hi1,hi2,hi3⟩ := hi
 have g1 : (ers r)[j]? = some ((nth r j).e.v false) := ers_nth (by omega)
 have g2 : (ers r)[j - 1]? = some ((nth r (j - 1)).e.v false) := ers_nth (by omega)
 refine wa_ (wa_ (wc_draw (y_ (m_ (h:=ax_ (h:=y_ (m_ (h:=ax_ (h:=y_ (b_ (h:=ax_ (h:=y_ (m_ (h:=ax_ (h:=?_)))))))))))))))
 refine gw_ (h1:=?_) (h2:=?_)
 rotate_right 1
 focus
  intro c1
  first
  | exact dn c1
  | (
   have d1 := c1;try simp at d1
   refine gd_ (h:=gd_ (h:=gd_ (h:=gd_ (h:=gd_ (h:=gd_ (h:=gd_ (h:=gd_ (h:=gd_ (h:=gd_ (h:=gd_ (h:=gd_ (h:=?_))))))))))))
   )
 rotate_right 1
 focus
  intro c1
  first
  | exact dn c1
  | (
   have d1 := c1;try simp at d1
   refine g_ (h:=y_ (m_ (h:=ax_ (h:=g_ (h:=y_ (m_ (h:=ax_ (h:=g_ (h:=y_ (m_ (h:=ax_ (h:=g_ (h:=y_ (x_ (h:=ax_ (h:=g_ (h:=y_ (l_ (h:=ax_ (h:=g_ (h:=y_ (m_ (h:=ax_ (h:=g_ (h:=y_ (m_ (h:=ax_ (h:=g_ (h:=y_ (?_))))))))))))))))))))))))))))))
   refine b_ (hv:=iv_sub (c:=j - 1) (by omega) (by omega)) (h:=?_)
   refine ax_ (h:=g_ (h:=y_ (x_ (h:=ax_ (h:=g_ (h:=y_ (l_ (h:=ax_ (h:=g_ (h:=y_ (ca (hc:=e_byE (nth r j) (nth r (j - 1))) (h:=ax_ (h:=g_ (h:=y_ (b_ (h:=ax_ (h:=?_)))))))))))))))))
   )
 all_goals
  refine y_ (pk (h:=ax_ (h:=wo_nil (ed (h:=?_)))))
 all_goals first
 | (
  refine aft_normal ?_
  refine c_ (h1:=?_) (h2:=?_)
  rotate_right 1
  focus
   intro c2
   first
   | exact dn c2
   | (
    have d2 := c2;try simp at d2
    refine wc_exit (?_)
    )
  rotate_right 1
  focus
   intro c2
   first
   | exact dn c2
   | (
    have d2 := c2;try simp at d2
    have g3 : (ers (r.set j (nth r (j - 1))))[j - 1]? = some ((nth (r.set j (nth r (j - 1))) (j - 1)).e.v false) := ers_nth (by simp;omega)
    refine wc_skip (?_)
    )
  )
 all_goals first
 | refine aft_exit ?_
 | (
  refine aft_normal ?_
  refine wa_ (wc_block (wc_draw (y_ (m_ (h:=ax_ (h:=y_ (m_ (h:=ax_ (h:=y_ (m_ (h:=ax_ (h:=y_ (m_ (h:=ax_ (h:=y_ (?_))))))))))))))))
  refine b_ (hv:=iv_sub (c:=j - 1) (by omega) (by omega)) (h:=?_)
  refine ax_ (h:=y_ (m_ (h:=ax_ (h:=y_ (m_ (h:=ax_ (h:=y_ (?_))))))))
  refine b_ (hv:=iv_sub (c:=j - 1) (by omega) (by omega)) (h:=?_)
  refine ax_ (h:=y_ (x_ (h:=ax_ (h:=y_ (l_ (h:=ax_ (h:=y_ (m_ (h:=ax_ (h:=y_ (m_ (h:=ax_ (h:=y_ (x_ (h:=ax_ (h:=y_ (l_ (h:=ax_ (h:=y_ (x_ (h:=ax_ (h:=y0 (s_ (h:=ax_ (h:=y_ (x_ (h:=ax_ (h:=y0 (s_ (h:=ax_ (h:=wo_nil (ed (h:=?_)))))))))))))))))))))))))))))))))
  refine blk_normal (aft_normal (wc_region (w_ (m_ (h:=w_ (?_))))))
  refine b_ (hv:=iv_sub (c:=j - 1) (by omega) (by omega)) (h:=?_)
  refine w_ (a_ (h:=wo_nil (e_ (h:=?_))))
  )
 all_goals first
 | (refine (ih ((j - 1,swp r j (j - 1))) (⟨by simp only;omega,by simp only;omega,by simp;omega⟩) ?_ _ ?_).trans ?_;(focus (first | omega | (simp;done) | (simp;omega)));(focus (simp [normE,ers_setS,swp];done));(focus (rw [bub_t (lt:=ltE) (a:=a) (j:=j) (l:=r) (by omega) (by simp [ltE];omega)])))
 | (apply end_leaf (ex:=(Ext.exit 2)) 4 (some [0,1,2,3,8]);(focus (simp [normE];rfl));(focus (rw [bub_f (by simp [ltE];omega)])))
theorem l_insC_E (a b N : Nat) (hN : N < 2000000) (hb : b ≤ N) : ∀ x : Nat × (List Er),(a < x.1 ∧ x.2.length = N) → ∀ s,normE 4 (some [0,1,2,3,8]) s = ⟨[(0,.ref 0 0 N),(1,.int .i64 a),(2,.int .i64 b),(3,.clo 176 []),(8,.int .i64 x.1)],[(0,⟨false,true,2,ers x.2,0⟩)],4⟩ →
 oc.loop 247 1 s = some (.exit 0,⟨[],[(0,⟨false,true,2,ers (insL ltE a (b - x.1) x.1 x.2),0⟩)],4⟩) := by
 refine loop_ind (σ:=Nat × (List Er)) (fun x => b - x.1) _ (fun x => ⟨[(0,.ref 0 0 N),(1,.int .i64 a),(2,.int .i64 b),(3,.clo 176 []),(8,.int .i64 x.1)],[(0,⟨false,true,2,ers x.2,0⟩)],4⟩) _ ?_
 rintro ⟨i,r⟩ hi ih s hs
 simp only at hi
 refine loop_s cd247 rfl rfl hs ?_
 obtain ⟨hi1,hi2⟩ := hi
 refine wa_ (wa_ (wc_region (w_ (m_ (h:=w_ (m_ (h:=w_ (b_ (h:=wo_nil (e_ (h:=aft_normal (?_))))))))))))
 refine c_ (h1:=?_) (h2:=?_)
 rotate_right 1
 focus
  intro c1
  first
  | exact dn c1
  | (
   have d1 := c1;try simp at d1
   refine wc_exit (?_)
   )
 rotate_right 1
 focus
  intro c1
  first
  | exact dn c1
  | (
   have d1 := c1;try simp at d1
   have hw := wrap_succ (i:=i) (by omega);have wb := bub_wit (lt:=ltE) (a:=a) (b:=N) (j:=i) (l:=r) (by omega) (by omega) (by omega);have hbl := wb.len
   refine wc_skip (?_)
   )
 all_goals first
 | refine aft_exit ?_
 | (
  refine aft_normal ?_
  refine wa_ (wc_block (wa_ (wc_region (w_ (m_ (h:=w_ (a_ (h:=wo_nil (e_ (h:=aft_normal (wc_block (?_))))))))))))
  refine wc_loop (l_bubC_E a b i N hN hb hi1 (by omega) (i,r) ⟨by simp only;omega,by simp,hi2⟩ _ (by simp [normE])) ?_
  refine blk_exit (blk_normal (aft_normal (wc_region (w_ (m_ (h:=w_ (b_ (h:=w_ (a_ (h:=wo_nil (e_ (h:=?_))))))))))))
  )
 all_goals first
 | (refine (ih ((i + 1,bub ltE a i r)) (⟨by simp only;omega,by simp;omega⟩) ?_ _ ?_).trans ?_;(focus (first | omega | (simp;done) | (simp;omega)));(focus (simp [normE,hw];done));(focus (rw [show b - i = (b - (i + 1)) + 1 by omega];rfl)))
 | (apply end_leaf (ex:=(Ext.exit 0)) 4 (some []);(focus (simp [normE];rfl));(focus (rw [show b - i = 0 by omega];rfl)))
theorem e_insC_E (a b : Nat) (l : List Er) (hN : l.length < 2000000) (hb : b ≤ l.length) (ha : a < 2000000) : oc.call 247 [.iol 2 (ers l),.int .i64 a,.int .i64 b,.clo 176 []] = some (.tup [],[.lst true 2 (ers (ins ltE a b l))]) := by
 refine fun_s rfl cd247 rfl rfl rfl (by simp;rfl) (by simp;rfl) ?_
 have hw := wrap_succ (i:=a) (by omega)
 refine wa_ (wc_region (w_ (m_ (h:=w_ (b_ (h:=w_ (a_ (h:=wo_nil (e_ (h:=aft_normal (wc_block (?_))))))))))))
 refine wc_loop (l_insC_E a b l.length hN hb (a + 1,l) ⟨by simp,rfl⟩ _ (by simp [normE,hw])) ?_
 refine blk_exit (?_)
 all_goals (refine fin_ (hr:=res_nil) (h:=?_);(focus (simp [ins])))
theorem l_swR_E (n a0 b0 N : Nat) (hN : N < 2000000) (h1 : a0 + n ≤ b0) (h2 : b0 + n ≤ N) : ∀ x : Nat × (List Er),(x.1 ≤ n ∧ x.2.length = N) → ∀ s,normE 5 (some [0,1,2,3,10]) s = ⟨[(0,.ref 0 0 N),(1,.int .i64 a0),(2,.int .i64 b0),(3,.int .i64 n),(10,.int .i64 x.1)],[(0,⟨false,true,2,ers x.2,0⟩)],5⟩ →
 oc.loop 260 1 s = some (.exit 0,⟨[],[(0,⟨false,true,2,ers (swR (n - x.1) (a0 + x.1) (b0 + x.1) x.2),0⟩)],5⟩) := by
 refine loop_ind (σ:=Nat × (List Er)) (fun x => n - x.1) _ (fun x => ⟨[(0,.ref 0 0 N),(1,.int .i64 a0),(2,.int .i64 b0),(3,.int .i64 n),(10,.int .i64 x.1)],[(0,⟨false,true,2,ers x.2,0⟩)],5⟩) _ ?_
 rintro ⟨i,r⟩ hi ih s hs
 simp only at hi
 refine loop_s cd260 rfl rfl hs ?_
 obtain ⟨hi1,hi2⟩ := hi
 refine wa_ (wa_ (wc_region (w_ (m_ (h:=w_ (m_ (h:=w_ (b_ (h:=wo_nil (e_ (h:=aft_normal (?_))))))))))))
 refine c_ (h1:=?_) (h2:=?_)
 rotate_right 1
 focus
  intro c1
  first
  | exact dn c1
  | (
   have d1 := c1;try simp at d1
   refine wc_exit (?_)
   )
 rotate_right 1
 focus
  intro c1
  first
  | exact dn c1
  | (
   have d1 := c1;try simp at d1
   have hw := wrap_succ (i:=i) (by omega);have g1 : (ers r)[a0 + i]? = some ((nth r (a0 + i)).e.v false) := ers_nth (by omega);have g2 : (ers r)[b0 + i]? = some ((nth r (b0 + i)).e.v false) := ers_nth (by omega);have g3 : (ers (r.set (a0 + i) (nth r (b0 + i))))[b0 + i]? = some ((nth (r.set (a0 + i) (nth r (b0 + i))) (b0 + i)).e.v false) := ers_nth (by simp;omega)
   refine wc_skip (?_)
   )
 all_goals first
 | refine aft_exit ?_
 | (
  refine aft_normal ?_
  refine wa_ (wc_block (wc_draw (y_ (m_ (h:=ax_ (h:=y_ (m_ (h:=ax_ (h:=y_ (m_ (h:=ax_ (h:=y_ (?_)))))))))))))
  refine b_ (hv:=iv_add (c:=a0 + i) (by omega) (by omega)) (h:=?_)
  refine ax_ (h:=y_ (m_ (h:=ax_ (h:=y_ (m_ (h:=ax_ (h:=y_ (m_ (h:=ax_ (h:=y_ (?_)))))))))))
  refine b_ (hv:=iv_add (c:=b0 + i) (by omega) (by omega)) (h:=?_)
  refine ax_ (h:=y_ (m_ (h:=ax_ (h:=y_ (m_ (h:=ax_ (h:=y_ (m_ (h:=ax_ (h:=y_ (?_)))))))))))
  refine b_ (hv:=iv_add (c:=b0 + i) (by omega) (by omega)) (h:=?_)
  refine ax_ (h:=y_ (x_ (h:=ax_ (h:=y_ (l_ (h:=ax_ (h:=y_ (m_ (h:=ax_ (h:=y_ (m_ (h:=ax_ (h:=y_ (m_ (h:=ax_ (h:=y_ (?_)))))))))))))))))
  refine b_ (hv:=iv_add (c:=a0 + i) (by omega) (by omega)) (h:=?_)
  refine ax_ (h:=y_ (x_ (h:=ax_ (h:=y_ (l_ (h:=ax_ (h:=y_ (x_ (h:=ax_ (h:=y0 (s_ (h:=ax_ (h:=y_ (x_ (h:=ax_ (h:=y0 (s_ (h:=ax_ (h:=wo_nil (ed (h:=blk_normal (aft_normal (wc_region (w_ (m_ (h:=?_))))))))))))))))))))))))))
  refine w_ (b_ (h:=w_ (a_ (h:=wo_nil (e_ (h:=?_))))))
  )
 all_goals first
 | (refine (ih ((i + 1,swp r (a0 + i) (b0 + i))) (⟨by simp only;omega,by simp;omega⟩) ?_ _ ?_).trans ?_;(focus (first | omega | (simp;done) | (simp;omega)));(focus (simp [normE,hw,ers_setS,swp,tnat];done));(focus (rw [show n - i = (n - (i + 1)) + 1 by omega];rfl)))
 | (apply end_leaf (ex:=(Ext.exit 0)) 5 (some []);(focus (simp [normE];rfl));(focus (rw [show n - i = 0 by omega];rfl)))
theorem e_swR_E (a b n : Nat) (l : List Er) (hN : l.length < 2000000) (h1 : a + n ≤ b) (h2 : b + n ≤ l.length) : oc.call 260 [.iol 2 (ers l),.int .i64 a,.int .i64 b,.int .i64 n,.clo 176 []] = some (.tup [],[.lst true 2 (ers (swR n a b l))]) := by
 refine fun_s rfl cd260 rfl rfl rfl (by simp;rfl) (by simp;rfl) ?_
 refine wa_ (wc_region (w_ (a_ (h:=wo_nil (e_ (h:=aft_normal (wc_block (?_))))))))
 refine wc_loop (l_swR_E n a b l.length hN h1 h2 (0,l) ⟨by simp,rfl⟩ _ (by simp [normE])) ?_
 refine blk_exit (?_)
 all_goals (refine fin_ (hr:=res_nil) (h:=?_);(focus (simp)))
def rotP_E (m i j : Nat) (l : List Er) : Nat × List Er :=
  if i = 0 ∨ j = 0 ∨ i = j then (i,l) else if j < i then rotP_E m (i - j) j (swR j (m - i) m l) else rotP_E m i (j - i) (swR i (m - i) (m + j - i) l)
termination_by i + j
decreasing_by all_goals omega
theorem rotP_0_E {m i j : Nat} {l : List Er} (h : i = j) : rotP_E m i j l = (i,l) := by
  unfold rotP_E;rw [if_pos (by omega)]
theorem rotP_1_E {m i j : Nat} {l : List Er} (hj : 0 < j) (h : j < i) : rotP_E m i j l = rotP_E m (i - j) j (swR j (m - i) m l) := by
  conv => lhs;unfold rotP_E
  rw [if_neg (by omega),if_pos h]
theorem rotP_2_E {m i j : Nat} {l : List Er} (hi : 0 < i) (h : i < j) : rotP_E m i j l = rotP_E m i (j - i) (swR i (m - i) (m + j - i) l) := by
  conv => lhs;unfold rotP_E
  rw [if_neg (by omega),if_neg (by omega)]
theorem rotP_ok_E {m : Nat} : ∀ (i j : Nat) (l : List Er),0 < i → 0 < j → i ≤ m → m + j ≤ l.length → 0 < (rotP_E m i j l).1 ∧ (rotP_E m i j l).1 ≤ i ∧ (rotP_E m i j l).1 ≤ j ∧ (rotP_E m i j l).2.length = l.length ∧ swR (rotP_E m i j l).1 (m - (rotP_E m i j l).1) m (rotP_E m i j l).2 = rot m i j l := by
  intro i j
  induction hd : i + j using Nat.strongRecOn generalizing i j with
  | _ d ih =>
    subst hd
    intro l h1 h2 h3 h4
    rcases Nat.lt_trichotomy i j with h | h | h
    · have hs := (swR_ok (n:=i) (a:=m - i) (b:=m + j - i) (l:=l) (by omega) (by omega)).1.length_eq
      rw [rotP_2_E h1 h,rot_2 h1 h]
      obtain ⟨a,b,c,d,e⟩ := ih (i + (j - i)) (by omega) i (j - i) rfl (swR i (m - i) (m + j - i) l) h1 (by omega) h3 (by omega)
      exact ⟨a,b,by omega,d.trans hs,e⟩
    · rw [rotP_0_E h,rot_0 h1 h]
      exact ⟨h1,Nat.le_refl _,by simp only;omega,rfl,rfl⟩
    · have hs := (swR_ok (n:=j) (a:=m - i) (b:=m) (l:=l) (by omega) (by omega)).1.length_eq
      rw [rotP_1_E h2 h,rot_1 h2 h]
      obtain ⟨a,b,c,d,e⟩ := ih (i - j + j) (by omega) (i - j) j rfl (swR j (m - i) m l) (by omega) h2 (by omega) (by omega)
      exact ⟨a,by omega,c,d.trans hs,e⟩
theorem l_rot_E (m N : Nat) (hN : N < 2000000) : ∀ x : Nat × Nat × (List Er),(0 < x.1 ∧ 0 < x.2.1 ∧ x.1 ≤ m ∧ m + x.2.1 ≤ N ∧ x.2.2.length = N) → ∀ s,normE 5 (some [0,2,4,10,11]) s = ⟨[(0,.ref 0 0 N),(2,.int .i64 m),(4,.clo 176 []),(10,.int .i64 x.1),(11,.int .i64 x.2.1)],[(0,⟨false,true,2,ers x.2.2,0⟩)],5⟩ →
 oc.loop 257 2 s = some (.exit 0,⟨[(0,.ref 0 0 N),(2,.int .i64 m),(4,.clo 176 []),(10,.int .i64 ((rotP_E m x.1 x.2.1 x.2.2).1 : Nat))],[(0,⟨false,true,2,ers (rotP_E m x.1 x.2.1 x.2.2).2,0⟩)],5⟩) := by
 refine loop_ind (σ:=Nat × Nat × (List Er)) (fun x => x.1 + x.2.1) _ (fun x => ⟨[(0,.ref 0 0 N),(2,.int .i64 m),(4,.clo 176 []),(10,.int .i64 x.1),(11,.int .i64 x.2.1)],[(0,⟨false,true,2,ers x.2.2,0⟩)],5⟩) _ ?_
 rintro ⟨i,j,r⟩ hi ih s hs
 simp only at hi
 refine loop_s cd257 rfl rfl hs ?_
 obtain ⟨hi1,hi2,hi3,hi4,hi5⟩ := hi
 refine wa_ (wa_ (wc_region (w_ (m_ (h:=w_ (m_ (h:=w_ (bE (h:=wo_nil (e_ (h:=aft_normal (?_))))))))))))
 refine c_ (h1:=?_) (h2:=?_)
 rotate_right 1
 focus
  intro c1
  first
  | exact dn c1
  | (
   have d1 := c1;try simp at d1
   refine wc_exit (?_)
   )
 rotate_right 1
 focus
  intro c1
  first
  | exact dn c1
  | (
   have d1 := c1;try simp at d1
   refine wc_skip (?_)
   )
 all_goals first
 | refine aft_exit ?_
 | (
  refine aft_normal ?_
  refine wc_block (wa_ (wc_region (w_ (m_ (h:=w_ (m_ (h:=w_ (b_ (h:=wo_nil (e_ (h:=aft_normal (?_))))))))))))
  refine c_ (h1:=?_) (h2:=?_)
  rotate_right 1
  focus
   intro c2
   first
   | exact dn c2
   | (
    have d2 := c2;try simp at d2
    have hij : i < j := (by simp at *;omega);have hsl := (swR_ok (n:=i) (a:=m - i) (b:=m + j - i) (l:=r) (by omega) (by omega)).1.length_eq
    refine wa_ (wc_region (w_ (m_ (h:=w_ (m_ (h:=w_ (m_ (h:=w_ (?_)))))))))
    refine b_ (hv:=iv_sub (c:=m - i) (by simp only;omega) (by omega)) (h:=?_)
    refine w_ (m_ (h:=w_ (m_ (h:=w_ (?_)))))
    refine b_ (hv:=iv_add (c:=m + j) (by simp only;omega) (by omega)) (h:=?_)
    refine w_ (m_ (h:=w_ (?_)))
    refine b_ (hv:=iv_sub (c:=m + j - i) (by simp only;omega) (by omega)) (h:=?_)
    refine w_ (m_ (h:=w_ (m_ (h:=w_ (?_)))))
    refine cI (hc:=e_swR_E (m - i) (m + j - i) i r (by omega) (by omega) (by omega)) (hal:=ers_alk hsl.symm) (h:=?_)
    refine wo_nil (e_ (h:=aft_normal (wc_region (w_ (m_ (h:=w_ (m_ (h:=w_ (?_)))))))))
    refine b_ (hv:=iv_sub (c:=j - i) (by simp only;omega) (by omega)) (h:=?_)
    refine w_ (a_ (h:=wo_nil (e_ (h:=?_))))
    )
  rotate_right 1
  focus
   intro c2
   first
   | exact dn c2
   | (
    have d2 := c2;try simp at d2
    have hij : j < i := (by simp at *;omega);have hsl := (swR_ok (n:=j) (a:=m - i) (b:=m) (l:=r) (by omega) (by omega)).1.length_eq
    refine wa_ (wc_region (w_ (m_ (h:=w_ (m_ (h:=w_ (m_ (h:=w_ (?_)))))))))
    refine b_ (hv:=iv_sub (c:=m - i) (by simp only;omega) (by omega)) (h:=?_)
    refine w_ (m_ (h:=w_ (m_ (h:=w_ (m_ (h:=w_ (?_)))))))
    refine cI (hc:=e_swR_E (m - i) m j r (by omega) (by omega) (by omega)) (hal:=ers_alk hsl.symm) (h:=?_)
    refine wo_nil (e_ (h:=aft_normal (wc_region (w_ (m_ (h:=w_ (m_ (h:=w_ (?_)))))))))
    refine b_ (hv:=iv_sub (c:=i - j) (by simp only;omega) (by omega)) (h:=?_)
    refine w_ (a_ (h:=wo_nil (e_ (h:=?_))))
    )
  all_goals refine blk_normal ?_
  )
 all_goals first
 | (refine (ih ((i - j,j,swR j (m - i) m r)) (⟨by simp only;omega,by simp only;omega,by simp only;omega,by simp only;omega,by simp only;omega⟩) ?_ _ ?_).trans ?_;(focus (first | omega | (simp;done) | (simp;omega)));(focus (simp [normE,tnat];done));(focus (rw [rotP_1_E (l:=r) hi2 hij])))
 | (refine (ih ((i,j - i,swR i (m - i) (m + j - i) r)) (⟨by simp only;omega,by simp only;omega,by simp only;omega,by simp only;omega,by simp only;omega⟩) ?_ _ ?_).trans ?_;(focus (first | omega | (simp;done) | (simp;omega)));(focus (simp [normE,tnat];done));(focus (rw [rotP_2_E (l:=r) hi1 hij])))
 | (apply end_leaf (ex:=(Ext.exit 0)) 5 (some [0,2,4,10]);(focus (simp [normE];rfl));(focus (rw [rotP_0_E (by simp at *;omega)])))
theorem e_rot_E (a m b : Nat) (l : List Er) (hN : l.length < 2000000) (h1 : a < m) (h2 : m < b) (h3 : b ≤ l.length) : oc.call 257 [.iol 2 (ers l),.int .i64 a,.int .i64 m,.int .i64 b,.clo 176 []] = some (.tup [],[.lst true 2 (ers (rot m (m - a) (b - m) l))]) := by
 refine fun_s rfl cd257 rfl rfl rfl (by simp;rfl) (by simp;rfl) ?_
 obtain ⟨q1,q2,q3,q4,q5⟩ := rotP_ok_E (m:=m) (m - a) (b - m) l (by omega) (by omega) (by omega) (by omega)
 have hq := (swR_ok (n:=(rotP_E m (m - a) (b - m) l).1) (a:=m - (rotP_E m (m - a) (b - m) l).1) (b:=m) (l:=(rotP_E m (m - a) (b - m) l).2) (by omega) (by omega)).1.length_eq
 refine wa_ (wc_region (w_ (m_ (h:=w_ (m_ (h:=w_ (?_)))))))
 refine b_ (hv:=iv_sub (c:=m - a) (by omega) (by omega)) (h:=?_)
 refine w_ (a_ (h:=wo_nil (e_ (h:=aft_normal (wa_ (wc_region (w_ (m_ (h:=w_ (m_ (h:=w_ (?_))))))))))))
 refine b_ (hv:=iv_sub (c:=b - m) (by omega) (by omega)) (h:=?_)
 refine w_ (a_ (h:=wo_nil (e_ (h:=aft_normal (wa_ (wc_block (?_)))))))
 refine wc_loop (l_rot_E m l.length hN (m - a,b - m,l) ⟨by simp only;omega,by simp only;omega,by simp only;omega,by simp only;omega,rfl⟩ _ (by simp [normE])) ?_
 refine blk_exit (aft_normal (wc_region (w_ (m_ (h:=w_ (m_ (h:=w_ (m_ (h:=w_ (?_))))))))))
 refine b_ (hv:=iv_sub (c:=m - (rotP_E m (m - a) (b - m) l).1) (by simp only;omega) (by omega)) (h:=?_)
 refine w_ (m_ (h:=w_ (m_ (h:=w_ (m_ (h:=w_ (?_)))))))
 refine cI (hc:=e_swR_E (m - (rotP_E m (m - a) (b - m) l).1) m (rotP_E m (m - a) (b - m) l).1 (rotP_E m (m - a) (b - m) l).2 (by omega) (by omega) (by omega)) (hal:=ers_alk hq.symm) (h:=?_)
 refine wo_nil (e_ (h:=?_))
 all_goals (refine fin_ (hr:=res_nil) (h:=?_);(focus (simp [q5])))
end Go.Proofs.Ytgkbmiaimjpbfaa.Ev
namespace Go.Proofs.Ytgkbmiaimjpbfaa.Ev
open Go
set_option maxRecDepth 100000
set_option linter.unusedSimpArgs false
set_option linter.unusedVariables false
set_option maxHeartbeats 2000000
theorem l_s3_E (a N : Nat) (r : List Er) (hN : N < 2000000) (hr : r.length = N) (ha : a < N) : ∀ x : Nat × Nat,(x.1 ≤ x.2 ∧ x.2 ≤ N) → ∀ s,normE 5 (some [0,1,4,10,11]) s = ⟨[(0,.ref 0 0 N),(1,.int .i64 a),(4,.clo 176 []),(10,.int .i64 x.1),(11,.int .i64 x.2)],[(0,⟨false,true,2,ers r,0⟩)],5⟩ →
 oc.loop 248 3 s = some (.exit 0,⟨[(0,.ref 0 0 N),(1,.int .i64 a),(10,.int .i64 (hlf (fun h => ltE (nth r h) (nth r a)) x.1 x.2 : Nat))],[(0,⟨false,true,2,ers r,0⟩)],5⟩) := by
 refine loop_ind (σ:=Nat × Nat) (fun x => x.2 - x.1) _ (fun x => ⟨[(0,.ref 0 0 N),(1,.int .i64 a),(4,.clo 176 []),(10,.int .i64 x.1),(11,.int .i64 x.2)],[(0,⟨false,true,2,ers r,0⟩)],5⟩) _ ?_
 rintro ⟨i,j⟩ hi ih s hs
 simp only at hi
 refine loop_s cd248 rfl rfl hs ?_
 obtain ⟨hi1,hi2⟩ := hi
 refine wa_ (wa_ (wc_region (w_ (m_ (h:=w_ (m_ (h:=w_ (b_ (h:=wo_nil (e_ (h:=aft_normal (?_))))))))))))
 refine c_ (h1:=?_) (h2:=?_)
 rotate_right 1
 focus
  intro c1
  first
  | exact dn c1
  | (
   have d1 := c1;try simp at d1
   refine wc_exit (?_)
   )
 rotate_right 1
 focus
  intro c1
  first
  | exact dn c1
  | (
   have d1 := c1;try simp at d1
   have g1 : (ers r)[(i + j) / 2]? = some ((nth r ((i + j) / 2)).e.v false) := ers_nth (by omega);have g2 : (ers r)[a]? = some ((nth r a).e.v false) := ers_nth (by omega)
   refine wc_skip (?_)
   )
 all_goals first
 | refine aft_exit ?_
 | (
  refine aft_normal ?_
  refine wc_block (wa_ (wc_region (w_ (m_ (h:=w_ (m_ (h:=w_ (?_))))))))
  refine b_ (hv:=iv_add (c:=i + j) (by simp) (by omega)) (h:=?_)
  refine w_ (?_)
  refine cvN (c:=i + j) (hc:=u64_nat (by omega)) (h:=?_)
  refine w_ (?_)
  refine sh (hv:=shr1) (h:=?_)
  refine w_ (?_)
  refine cvN (c:=(i + j) / 2) (hc:=wrap_nat (by omega)) (h:=?_)
  refine w_ (a_ (h:=wo_nil (e_ (h:=aft_normal (wa_ (wc_draw (y_ (m_ (h:=ax_ (h:=y_ (m_ (h:=ax_ (h:=y_ (m_ (h:=ax_ (h:=y_ (x_ (h:=ax_ (h:=y_ (l_ (h:=ax_ (h:=y_ (m_ (h:=ax_ (h:=y_ (m_ (h:=ax_ (h:=?_))))))))))))))))))))))))))))
  refine y_ (x_ (h:=ax_ (h:=y_ (l_ (h:=ax_ (h:=y_ (ca (hc:=e_byE (nth r ((i + j) / 2)) (nth r a)) (h:=ax_ (h:=y_ (b_ (h:=ax_ (h:=wo_nil (ed (h:=aft_normal (?_)))))))))))))))
  refine c_ (h1:=?_) (h2:=?_)
  rotate_right 1
  focus
   intro c2
   first
   | exact dn c2
   | (
    have d2 := c2;try simp at d2
    refine wc_region (w_ (m_ (h:=w_ (a_ (h:=wo_nil (e_ (h:=?_)))))))
    )
  rotate_right 1
  focus
   intro c2
   first
   | exact dn c2
   | (
    have d2 := c2;try simp at d2
    refine wc_region (w_ (m_ (h:=w_ (?_))))
    refine b_ (hv:=iv_add (c:=(i + j) / 2 + 1) (by simp) (by omega)) (h:=?_)
    refine w_ (a_ (h:=wo_nil (e_ (h:=?_))))
    )
  all_goals refine blk_normal ?_
  )
 all_goals first
 | (refine (ih (((i + j) / 2 + 1,j)) (⟨by simp only;omega,by simp only;omega⟩) ?_ _ ?_).trans ?_;(focus (first | omega | (simp;done) | (simp;omega)));(focus (simp [normE,tnat];done));(focus (rw [hlf_t (i:=i) (j:=j) (by omega) (by simp [ltE];omega)])))
 | (refine (ih ((i,(i + j) / 2)) (⟨by simp only;omega,by simp only;omega⟩) ?_ _ ?_).trans ?_;(focus (first | omega | (simp;done) | (simp;omega)));(focus (simp [normE,tnat];done));(focus (rw [hlf_f (i:=i) (j:=j) (by omega) (by simp [ltE];omega)])))
 | (apply end_leaf (ex:=(Ext.exit 0)) 5 (some [0,1,10]);(focus (simp [normE];rfl));(focus (rw [hlf_0 (i:=i) (j:=j) (by omega)])))
theorem l_s15_E (m N : Nat) (r : List Er) (hN : N < 2000000) (hr : r.length = N) (hm : m < N) : ∀ x : Nat × Nat,(x.1 ≤ x.2 ∧ x.2 ≤ N) → ∀ s,normE 5 (some [0,2,4,14,15]) s = ⟨[(0,.ref 0 0 N),(2,.int .i64 m),(4,.clo 176 []),(14,.int .i64 x.1),(15,.int .i64 x.2)],[(0,⟨false,true,2,ers r,0⟩)],5⟩ →
 oc.loop 248 15 s = some (.exit 4,⟨[(0,.ref 0 0 N),(2,.int .i64 m),(14,.int .i64 (hlf (fun h => !ltE (nth r m) (nth r h)) x.1 x.2 : Nat))],[(0,⟨false,true,2,ers r,0⟩)],5⟩) := by
 refine loop_ind (σ:=Nat × Nat) (fun x => x.2 - x.1) _ (fun x => ⟨[(0,.ref 0 0 N),(2,.int .i64 m),(4,.clo 176 []),(14,.int .i64 x.1),(15,.int .i64 x.2)],[(0,⟨false,true,2,ers r,0⟩)],5⟩) _ ?_
 rintro ⟨i,j⟩ hi ih s hs
 simp only at hi
 refine loop_s cd248 rfl rfl hs ?_
 obtain ⟨hi1,hi2⟩ := hi
 refine wa_ (wa_ (wc_region (w_ (m_ (h:=w_ (m_ (h:=w_ (b_ (h:=wo_nil (e_ (h:=aft_normal (?_))))))))))))
 refine c_ (h1:=?_) (h2:=?_)
 rotate_right 1
 focus
  intro c1
  first
  | exact dn c1
  | (
   have d1 := c1;try simp at d1
   refine wc_exit (?_)
   )
 rotate_right 1
 focus
  intro c1
  first
  | exact dn c1
  | (
   have d1 := c1;try simp at d1
   have g1 : (ers r)[(i + j) / 2]? = some ((nth r ((i + j) / 2)).e.v false) := ers_nth (by omega);have g2 : (ers r)[m]? = some ((nth r m).e.v false) := ers_nth (by omega)
   refine wc_skip (?_)
   )
 all_goals first
 | refine aft_exit ?_
 | (
  refine aft_normal ?_
  refine wc_block (wa_ (wc_region (w_ (m_ (h:=w_ (m_ (h:=w_ (?_))))))))
  refine b_ (hv:=iv_add (c:=i + j) (by simp) (by omega)) (h:=?_)
  refine w_ (?_)
  refine cvN (c:=i + j) (hc:=u64_nat (by omega)) (h:=?_)
  refine w_ (?_)
  refine sh (hv:=shr1) (h:=?_)
  refine w_ (?_)
  refine cvN (c:=(i + j) / 2) (hc:=wrap_nat (by omega)) (h:=?_)
  refine w_ (a_ (h:=wo_nil (e_ (h:=aft_normal (wa_ (wc_draw (y_ (m_ (h:=ax_ (h:=y_ (m_ (h:=ax_ (h:=y_ (m_ (h:=ax_ (h:=y_ (x_ (h:=ax_ (h:=y_ (l_ (h:=ax_ (h:=y_ (m_ (h:=ax_ (h:=y_ (m_ (h:=ax_ (h:=?_))))))))))))))))))))))))))))
  refine y_ (x_ (h:=ax_ (h:=y_ (l_ (h:=ax_ (h:=y_ (ca (hc:=e_byE (nth r m) (nth r ((i + j) / 2))) (h:=ax_ (h:=y_ (b_ (h:=ax_ (h:=y_ (u_ (h:=ax_ (h:=wo_nil (ed (h:=aft_normal (?_))))))))))))))))))
  refine c_ (h1:=?_) (h2:=?_)
  rotate_right 1
  focus
   intro c2
   first
   | exact dn c2
   | (
    have d2 := c2;try simp at d2
    refine wc_region (w_ (m_ (h:=w_ (a_ (h:=wo_nil (e_ (h:=?_)))))))
    )
  rotate_right 1
  focus
   intro c2
   first
   | exact dn c2
   | (
    have d2 := c2;try simp at d2
    refine wc_region (w_ (m_ (h:=w_ (?_))))
    refine b_ (hv:=iv_add (c:=(i + j) / 2 + 1) (by simp) (by omega)) (h:=?_)
    refine w_ (a_ (h:=wo_nil (e_ (h:=?_))))
    )
  all_goals refine blk_normal ?_
  )
 all_goals first
 | (refine (ih (((i + j) / 2 + 1,j)) (⟨by simp only;omega,by simp only;omega⟩) ?_ _ ?_).trans ?_;(focus (first | omega | (simp;done) | (simp;omega)));(focus (simp [normE,tnat];done));(focus (rw [hlf_t (i:=i) (j:=j) (by omega) (by simp [ltE];omega)])))
 | (refine (ih ((i,(i + j) / 2)) (⟨by simp only;omega,by simp only;omega⟩) ?_ _ ?_).trans ?_;(focus (first | omega | (simp;done) | (simp;omega)));(focus (simp [normE,tnat];done));(focus (rw [hlf_f (i:=i) (j:=j) (by omega) (by simp [ltE];omega)])))
 | (apply end_leaf (ex:=(Ext.exit 4)) 5 (some [0,2,14]);(focus (simp [normE];rfl));(focus (rw [hlf_0 (i:=i) (j:=j) (by omega)])))
theorem l_s9_E (i N : Nat) (hN : N < 2000000) (hi1 : 1 ≤ i) (hiN : i ≤ N) : ∀ x : Nat × (List Er),(x.1 ≤ i - 1 ∧ x.2.length = N) → ∀ s,normE 5 (some [0,10,13]) s = ⟨[(0,.ref 0 0 N),(10,.int .i64 i),(13,.int .i64 x.1)],[(0,⟨false,true,2,ers x.2,0⟩)],5⟩ →
 oc.loop 248 9 s = some (.exit 2,⟨[],[(0,⟨false,true,2,ers (mvU (i - 1 - x.1) x.1 x.2),0⟩)],5⟩) := by
 refine loop_ind (σ:=Nat × (List Er)) (fun x => i - 1 - x.1) _ (fun x => ⟨[(0,.ref 0 0 N),(10,.int .i64 i),(13,.int .i64 x.1)],[(0,⟨false,true,2,ers x.2,0⟩)],5⟩) _ ?_
 rintro ⟨k,r⟩ hi ih s hs
 simp only at hi
 refine loop_s cd248 rfl rfl hs ?_
 obtain ⟨hk1,hk2⟩ := hi
 refine wa_ (wa_ (wc_region (w_ (m_ (h:=w_ (m_ (h:=w_ (?_))))))))
 refine b_ (hv:=iv_sub (c:=i - 1) (by omega) (by omega)) (h:=?_)
 refine w_ (b_ (h:=wo_nil (e_ (h:=aft_normal (?_)))))
 refine c_ (h1:=?_) (h2:=?_)
 rotate_right 1
 focus
  intro c1
  first
  | exact dn c1
  | (
   have d1 := c1;try simp at d1
   have hki : ¬ k < i - 1 := (by simp at c1;omega)
   refine wc_exit (?_)
   )
 rotate_right 1
 focus
  intro c1
  first
  | exact dn c1
  | (
   have d1 := c1;try simp at d1
   have hki : k < i - 1 := (by simp at c1;omega);have g1 : (ers r)[k]? = some ((nth r k).e.v false) := ers_nth (by omega);have g2 : (ers r)[k + 1]? = some ((nth r (k + 1)).e.v false) := ers_nth (by omega);have g3 : (ers (r.set k (nth r (k + 1))))[k + 1]? = some ((nth (r.set k (nth r (k + 1))) (k + 1)).e.v false) := ers_nth (by simp;omega)
   refine wc_skip (?_)
   )
 all_goals first
 | refine aft_exit ?_
 | (
  refine aft_normal ?_
  refine wa_ (wc_block (wc_draw (y_ (m_ (h:=ax_ (h:=y_ (m_ (h:=ax_ (h:=y_ (m_ (h:=ax_ (h:=y_ (m_ (h:=ax_ (h:=y_ (?_))))))))))))))))
  refine b_ (hv:=iv_add (c:=k + 1) (by simp) (by omega)) (h:=?_)
  refine ax_ (h:=y_ (m_ (h:=ax_ (h:=y_ (m_ (h:=ax_ (h:=y_ (?_))))))))
  refine b_ (hv:=iv_add (c:=k + 1) (by simp) (by omega)) (h:=?_)
  refine ax_ (h:=y_ (x_ (h:=ax_ (h:=y_ (l_ (h:=ax_ (h:=y_ (m_ (h:=ax_ (h:=y_ (m_ (h:=ax_ (h:=y_ (x_ (h:=ax_ (h:=y_ (l_ (h:=ax_ (h:=y_ (x_ (h:=ax_ (h:=y0 (s_ (h:=ax_ (h:=y_ (x_ (h:=ax_ (h:=y0 (s_ (h:=ax_ (h:=wo_nil (ed (h:=?_)))))))))))))))))))))))))))))))))
  refine blk_normal (aft_normal (wc_region (w_ (m_ (h:=w_ (?_))))))
  refine b_ (hv:=iv_add (c:=k + 1) (by simp) (by omega)) (h:=?_)
  refine w_ (a_ (h:=wo_nil (e_ (h:=?_))))
  )
 all_goals first
 | (refine (ih ((k + 1,swp r k (k + 1))) (⟨by simp only;omega,by simp;omega⟩) ?_ _ ?_).trans ?_;(focus (first | omega | (simp;done) | (simp;omega)));(focus (simp [normE,ers_setS,swp,tnat];done));(focus (rw [show i - 1 - k = (i - 1 - (k + 1)) + 1 by omega];rfl)))
 | (apply end_leaf (ex:=(Ext.exit 2)) 5 (some []);(focus (simp [normE];rfl));(focus (rw [show i - 1 - k = 0 by omega];rfl)))
theorem l_s21_E (i N : Nat) (hN : N < 2000000) : ∀ x : Nat × (List Er),(i ≤ x.1 ∧ x.1 < N ∧ x.2.length = N) → ∀ s,normE 5 (some [0,14,17]) s = ⟨[(0,.ref 0 0 N),(14,.int .i64 i),(17,.int .i64 x.1)],[(0,⟨false,true,2,ers x.2,0⟩)],5⟩ →
 oc.loop 248 21 s = some (.exit 6,⟨[],[(0,⟨false,true,2,ers (mvD (x.1 - i) x.1 x.2),0⟩)],5⟩) := by
 refine loop_ind (σ:=Nat × (List Er)) (fun x => x.1 - i) _ (fun x => ⟨[(0,.ref 0 0 N),(14,.int .i64 i),(17,.int .i64 x.1)],[(0,⟨false,true,2,ers x.2,0⟩)],5⟩) _ ?_
 rintro ⟨k,r⟩ hi ih s hs
 simp only at hi
 refine loop_s cd248 rfl rfl hs ?_
 obtain ⟨hk1,hk2,hk3⟩ := hi
 refine wa_ (wa_ (wc_region (w_ (m_ (h:=w_ (m_ (h:=w_ (b_ (h:=wo_nil (e_ (h:=aft_normal (?_))))))))))))
 refine c_ (h1:=?_) (h2:=?_)
 rotate_right 1
 focus
  intro c1
  first
  | exact dn c1
  | (
   have d1 := c1;try simp at d1
   have hki : ¬ i < k := (by simp at c1;omega)
   refine wc_exit (?_)
   )
 rotate_right 1
 focus
  intro c1
  first
  | exact dn c1
  | (
   have d1 := c1;try simp at d1
   have hki : i < k := (by simp at c1;omega);have g1 : (ers r)[k]? = some ((nth r k).e.v false) := ers_nth (by omega);have g2 : (ers r)[k - 1]? = some ((nth r (k - 1)).e.v false) := ers_nth (by omega);have g3 : (ers (r.set k (nth r (k - 1))))[k - 1]? = some ((nth (r.set k (nth r (k - 1))) (k - 1)).e.v false) := ers_nth (by simp;omega)
   refine wc_skip (?_)
   )
 all_goals first
 | refine aft_exit ?_
 | (
  refine aft_normal ?_
  refine wa_ (wc_block (wc_draw (y_ (m_ (h:=ax_ (h:=y_ (m_ (h:=ax_ (h:=y_ (m_ (h:=ax_ (h:=y_ (m_ (h:=ax_ (h:=y_ (?_))))))))))))))))
  refine b_ (hv:=iv_sub (c:=k - 1) (by omega) (by omega)) (h:=?_)
  refine ax_ (h:=y_ (m_ (h:=ax_ (h:=y_ (m_ (h:=ax_ (h:=y_ (?_))))))))
  refine b_ (hv:=iv_sub (c:=k - 1) (by omega) (by omega)) (h:=?_)
  refine ax_ (h:=y_ (x_ (h:=ax_ (h:=y_ (l_ (h:=ax_ (h:=y_ (m_ (h:=ax_ (h:=y_ (m_ (h:=ax_ (h:=y_ (x_ (h:=ax_ (h:=y_ (l_ (h:=ax_ (h:=y_ (x_ (h:=ax_ (h:=y0 (s_ (h:=ax_ (h:=y_ (x_ (h:=ax_ (h:=y0 (s_ (h:=ax_ (h:=wo_nil (ed (h:=?_)))))))))))))))))))))))))))))))))
  refine blk_normal (aft_normal (wc_region (w_ (m_ (h:=w_ (?_))))))
  refine b_ (hv:=iv_sub (c:=k - 1) (by omega) (by omega)) (h:=?_)
  refine w_ (a_ (h:=wo_nil (e_ (h:=?_))))
  )
 all_goals first
 | (refine (ih ((k - 1,swp r k (k - 1))) (⟨by simp only;omega,by simp only;omega,by simp;omega⟩) ?_ _ ?_).trans ?_;(focus (first | omega | (simp;done) | (simp;omega)));(focus (simp [normE,ers_setS,swp,tnat];done));(focus (rw [show k - i = (k - 1 - i) + 1 by omega];rfl)))
 | (apply end_leaf (ex:=(Ext.exit 6)) 5 (some []);(focus (simp [normE];rfl));(focus (rw [show k - i = 0 by omega];rfl)))
theorem l_s33_E (a m b mid lo hi0 N : Nat) (r : List Er) (hN : N < 2000000) (hr : r.length = N) (h1 : hi0 ≤ N) (h2 : hi0 ≤ mid + m) (h3 : mid + m ≤ N + lo) (h4 : m ≤ N) (h5 : mid ≤ N) : ∀ x : Nat × Nat,(lo ≤ x.1 ∧ x.1 ≤ x.2 ∧ x.2 ≤ hi0) → ∀ s,normE 5 (some [0,1,2,3,4,18,19,20,21,22]) s = ⟨[(0,.ref 0 0 N),(1,.int .i64 a),(2,.int .i64 m),(3,.int .i64 b),(4,.clo 176 []),(18,.int .i64 mid),(19,.int .i64 (mid + m : Nat)),(20,.int .i64 x.1),(21,.int .i64 x.2),(22,.int .i64 (mid + m - 1 : Nat))],[(0,⟨false,true,2,ers r,0⟩)],5⟩ →
 oc.loop 248 33 s = some (.exit 8,⟨[(0,.ref 0 0 N),(1,.int .i64 a),(2,.int .i64 m),(3,.int .i64 b),(4,.clo 176 []),(18,.int .i64 mid),(19,.int .i64 (mid + m : Nat)),(20,.int .i64 (hlf (fun c => !ltE (nth r (mid + m - 1 - c)) (nth r c)) x.1 x.2 : Nat))],[(0,⟨false,true,2,ers r,0⟩)],5⟩) := by
 refine loop_ind (σ:=Nat × Nat) (fun x => x.2 - x.1) _ (fun x => ⟨[(0,.ref 0 0 N),(1,.int .i64 a),(2,.int .i64 m),(3,.int .i64 b),(4,.clo 176 []),(18,.int .i64 mid),(19,.int .i64 (mid + m : Nat)),(20,.int .i64 x.1),(21,.int .i64 x.2),(22,.int .i64 (mid + m - 1 : Nat))],[(0,⟨false,true,2,ers r,0⟩)],5⟩) _ ?_
 rintro ⟨i,j⟩ hi ih s hs
 simp only at hi
 refine loop_s cd248 rfl rfl hs ?_
 obtain ⟨hi1,hi2,hi3⟩ := hi
 refine wa_ (wa_ (wc_region (w_ (m_ (h:=w_ (m_ (h:=w_ (b_ (h:=wo_nil (e_ (h:=aft_normal (?_))))))))))))
 refine c_ (h1:=?_) (h2:=?_)
 rotate_right 1
 focus
  intro c1
  first
  | exact dn c1
  | (
   have d1 := c1;try simp at d1
   refine wc_exit (?_)
   )
 rotate_right 1
 focus
  intro c1
  first
  | exact dn c1
  | (
   have d1 := c1;try simp at d1
   have hc1 : mid + m - 1 - (i + j) / 2 < r.length := (by omega);have g1 : (ers r)[(i + j) / 2]? = some ((nth r ((i + j) / 2)).e.v false) := ers_nth (by omega);have g2 : (ers r)[mid + m - 1 - (i + j) / 2]? = some ((nth r (mid + m - 1 - (i + j) / 2)).e.v false) := ers_nth hc1
   refine wc_skip (?_)
   )
 all_goals first
 | refine aft_exit ?_
 | (
  refine aft_normal ?_
  refine wc_block (wa_ (wc_region (w_ (m_ (h:=w_ (m_ (h:=w_ (?_))))))))
  refine b_ (hv:=iv_add (c:=i + j) (by simp) (by omega)) (h:=?_)
  refine w_ (?_)
  refine cvN (c:=i + j) (hc:=u64_nat (by omega)) (h:=?_)
  refine w_ (?_)
  refine sh (hv:=shr1) (h:=?_)
  refine w_ (?_)
  refine cvN (c:=(i + j) / 2) (hc:=wrap_nat (by omega)) (h:=?_)
  refine w_ (a_ (h:=wo_nil (e_ (h:=aft_normal (wa_ (wc_draw (y_ (m_ (h:=ax_ (h:=y_ (m_ (h:=ax_ (h:=y_ (m_ (h:=ax_ (h:=y_ (m_ (h:=ax_ (h:=y_ (?_))))))))))))))))))))
  refine b_ (hv:=iv_sub (c:=mid + m - 1 - (i + j) / 2) (by omega) (by omega)) (h:=?_)
  refine ax_ (h:=y_ (x_ (h:=ax_ (h:=y_ (l_ (h:=ax_ (h:=y_ (m_ (h:=ax_ (h:=y_ (m_ (h:=ax_ (h:=y_ (x_ (h:=ax_ (h:=y_ (l_ (h:=ax_ (h:=y_ (ca (hc:=e_byE (nth r (mid + m - 1 - (i + j) / 2)) (nth r ((i + j) / 2))) (h:=ax_ (h:=y_ (b_ (h:=ax_ (h:=y_ (u_ (h:=ax_ (h:=wo_nil (ed (h:=aft_normal (?_)))))))))))))))))))))))))))))))
  refine c_ (h1:=?_) (h2:=?_)
  rotate_right 1
  focus
   intro c2
   first
   | exact dn c2
   | (
    have d2 := c2;try simp at d2
    refine wc_region (w_ (m_ (h:=w_ (a_ (h:=wo_nil (e_ (h:=?_)))))))
    )
  rotate_right 1
  focus
   intro c2
   first
   | exact dn c2
   | (
    have d2 := c2;try simp at d2
    refine wc_region (w_ (m_ (h:=w_ (?_))))
    refine b_ (hv:=iv_add (c:=(i + j) / 2 + 1) (by simp) (by omega)) (h:=?_)
    refine w_ (a_ (h:=wo_nil (e_ (h:=?_))))
    )
  all_goals refine blk_normal ?_
  )
 all_goals first
 | (refine (ih (((i + j) / 2 + 1,j)) (⟨by simp only;omega,by simp only;omega,by simp only;omega⟩) ?_ _ ?_).trans ?_;(focus (first | omega | (simp;done) | (simp;omega)));(focus (simp [normE,tnat];done));(focus (rw [hlf_t (i:=i) (j:=j) (by omega) (by simp [ltE];omega)])))
 | (refine (ih ((i,(i + j) / 2)) (⟨by simp only;omega,by simp only;omega,by simp only;omega⟩) ?_ _ ?_).trans ?_;(focus (first | omega | (simp;done) | (simp;omega)));(focus (simp [normE,tnat];done));(focus (rw [hlf_f (i:=i) (j:=j) (by omega) (by simp [ltE];omega)])))
 | (apply end_leaf (ex:=(Ext.exit 8)) 5 (some [0,1,2,3,4,18,19,20]);(focus (simp [normE];rfl));(focus (rw [hlf_0 (i:=i) (j:=j) (by omega)];simp)))
theorem symS_a_E {lt : Er → Er → Bool} {a m b : Nat} {l : List Er} (h : (a + b) / 2 < m) : symS lt a m b l = hlf (fun c => !lt (nth l ((a + b) / 2 + m - 1 - c)) (nth l c)) ((a + b) / 2 + m - b) ((a + b) / 2) := by
  unfold symS;rw [if_pos h]
theorem symS_b_E {lt : Er → Er → Bool} {a m b : Nat} {l : List Er} (h : ¬ (a + b) / 2 < m) : symS lt a m b l = hlf (fun c => !lt (nth l ((a + b) / 2 + m - 1 - c)) (nth l c)) a m := by
  unfold symS;rw [if_neg h]
theorem symS_in_E {lt : Er → Er → Bool} {a m b : Nat} {l : List Er} (h1 : a < m) (h2 : m < b) : symS lt a m b l ≤ m ∧ symS lt a m b l ≤ (a + b) / 2 ∧ a ≤ symS lt a m b l ∧ (a + b) / 2 + m - symS lt a m b l ≤ b := by
  by_cases h : (a + b) / 2 < m
  · rw [symS_a_E h]
    have := hlf_ok (p:=fun c => !lt (nth l ((a + b) / 2 + m - 1 - c)) (nth l c)) ((a + b) / 2 + m - b) ((a + b) / 2) (by omega)
    omega
  · rw [symS_b_E h]
    have := hlf_ok (p:=fun c => !lt (nth l ((a + b) / 2 + m - 1 - c)) (nth l c)) a m (by omega)
    omega
theorem l_sym_E (a m b N : Nat) (r : List Er) (hN : N < 2000000) (hr : r.length = N) (h1 : a < m) (h2 : m < b) (hb : b ≤ N) (i j : Nat) (h : (a + b) / 2 < m ∧ i = (a + b) / 2 + m - b ∧ j = (a + b) / 2 ∨ ¬ (a + b) / 2 < m ∧ i = a ∧ j = m) : ∀ s,normE 5 (some [0,1,2,3,4,18,19,20,21,22]) s = ⟨[(0,.ref 0 0 N),(1,.int .i64 a),(2,.int .i64 m),(3,.int .i64 b),(4,.clo 176 []),(18,.int .i64 ((a + b) / 2 : Nat)),(19,.int .i64 ((a + b) / 2 + m : Nat)),(20,.int .i64 i),(21,.int .i64 j),(22,.int .i64 ((a + b) / 2 + m - 1 : Nat))],[(0,⟨false,true,2,ers r,0⟩)],5⟩ →
    oc.loop 248 33 s = some (.exit 8,⟨[(0,.ref 0 0 N),(1,.int .i64 a),(2,.int .i64 m),(3,.int .i64 b),(4,.clo 176 []),(18,.int .i64 ((a + b) / 2 : Nat)),(19,.int .i64 ((a + b) / 2 + m : Nat)),(20,.int .i64 (symS ltE a m b r : Nat))],[(0,⟨false,true,2,ers r,0⟩)],5⟩) := by
  rcases h with ⟨h,rfl,rfl⟩ | ⟨h,rfl,rfl⟩
  · rw [symS_a_E h]
    exact l_s33_E a m b ((a + b) / 2) ((a + b) / 2 + m - b) ((a + b) / 2) N r hN hr (by omega) (by omega) (by omega) (by omega) (by omega) (_,_) ⟨Nat.le_refl _,by simp only;omega,Nat.le_refl _⟩
  · rw [symS_b_E h]
    exact l_s33_E i j b ((i + b) / 2) i j N r hN hr (by omega) (by omega) (by omega) (by omega) (by omega) (_,_) ⟨Nat.le_refl _,by simp only;omega,Nat.le_refl _⟩
theorem symM_len_E {lt : Er → Er → Bool} : ∀ (f a m b : Nat) (l : List Er),a < m → m < b → b ≤ l.length → (symM lt f a m b l).length = l.length
  | 0,a,m,b,l,h1,h2,hb => rfl
  | f + 1,a,m,b,l,h1,h2,hb => by
    unfold symM
    split
    · obtain ⟨q1,q2,_⟩ := hlf_ok (p:=fun h => lt (nth l h) (nth l a)) m b (by omega)
      exact (mvU_ok (by omega)).1.len
    · split
      · obtain ⟨q1,q2,_⟩ := hlf_ok (p:=fun h => !lt (nth l m) (nth l h)) a m (by omega)
        exact (mvD_ok (by omega) (by omega)).1.len
      · obtain ⟨r1,r2,r3,r4⟩ := symS_in_E (lt:=lt) (l:=l) h1 h2
        simp only
        generalize symS lt a m b l = s at *
        have hl1 := (cutR_nth (s:=s) (m:=m) (mid:=(a + b) / 2) (l:=l) r2 r1 (by omega)).1.length_eq
        generalize cutR s m ((a + b) / 2) l = l1 at *
        have hl2 : (if a < s ∧ s < (a + b) / 2 then symM lt f a s ((a + b) / 2) l1 else l1).length = l.length := by
          split
          · rename_i h
            exact (symM_len_E f a s ((a + b) / 2) l1 h.1 h.2 (by omega)).trans hl1
          · exact hl1
        generalize (if a < s ∧ s < (a + b) / 2 then symM lt f a s ((a + b) / 2) l1 else l1) = l2 at *
        split
        · rename_i h
          exact (symM_len_E f _ _ b l2 h.1 h.2 (by omega)).trans hl2
        · exact hl2
theorem symM_1_E {lt : Er → Er → Bool} {f a m b : Nat} {l : List Er} (h : m - a = 1) : symM lt (f + 1) a m b l = mvU (hlf (fun h => lt (nth l h) (nth l a)) m b - 1 - a) a l := by
  conv => lhs;unfold symM
  rw [if_pos h]
theorem symM_2_E {lt : Er → Er → Bool} {f a m b : Nat} {l : List Er} (h1 : ¬ m - a = 1) (h : b - m = 1) : symM lt (f + 1) a m b l = mvD (m - hlf (fun h => !lt (nth l m) (nth l h)) a m) m l := by
  conv => lhs;unfold symM
  rw [if_neg h1,if_pos h]
theorem e_symM_E : ∀ (f a m b : Nat) (l : List Er),b - a ≤ f → a < m → m < b → b ≤ l.length → l.length < 2000000 → oc.call 248 [.iol 2 (ers l),.int .i64 a,.int .i64 m,.int .i64 b,.clo 176 []] = some (.tup [],[.lst true 2 (ers (symM ltE f a m b l))]) := by
  intro f
  induction f with
  | zero => intro a m b l h0 h1 h2 h3 h4;omega
  | succ f ih =>
    intro a m b l h0 h1 h2 h3 h4
    obtain ⟨r1,r2,r3,r4⟩ := symS_in_E (lt:=ltE) (l:=l) h1 h2
    refine fun_s rfl cd248 rfl rfl rfl (by simp;rfl) (by simp;rfl) ?_
    refine wa_ (wa_ (wc_region (w_ (m_ (h:=w_ (m_ (h:=w_ (?_))))))))
    refine b_ (hv:=iv_sub (c:=m - a) (by omega) (by omega)) (h:=?_)
    refine w_ (bE (h:=wo_nil (e_ (h:=aft_normal (?_)))))
    refine c_ (h1:=?_) (h2:=?_)
    rotate_right 1
    focus
     intro c1
     first
     | exact dn c1
     | (have d1 := c1;try simp at d1
        have e1 : ¬ m - a = 1 := (by simp at c1;omega)
        refine wc_skip (?_)
        )
    rotate_right 1
    focus
     intro c1
     first
     | exact dn c1
     | (have d1 := c1;try simp at d1
        have e1 : m - a = 1 := (by simp at c1;omega);obtain ⟨q1,q2,_⟩ := hlf_ok (p:=fun h => ltE (nth l h) (nth l a)) m b (by omega)
        refine wa_ (wc_region (w_ (m_ (h:=w_ (a_ (h:=wo_nil (e_ (h:=aft_normal (wa_ (wc_region (w_ (m_ (h:=w_ (a_ (h:=wo_nil (e_ (h:=aft_normal (?_))))))))))))))))))
        refine wa_ (wc_block (?_))
        refine wc_loop (l_s3_E a l.length l h4 rfl (by omega) (m,b) ⟨by simp only;omega,by simp only;omega⟩ _ (by simp [normE])) ?_
        refine blk_exit (aft_normal (wa_ (wa_ (wc_region (w_ (m_ (h:=w_ (a_ (h:=wo_nil (e_ (h:=aft_normal (wc_block (?_)))))))))))))
        refine wc_loop (l_s9_E (hlf (fun h => ltE (nth l h) (nth l a)) m b) l.length h4 (by omega) (by omega) (a,l) ⟨by simp only;omega,rfl⟩ _ (by simp [normE])) ?_
        refine blk_exit (aft_normal (wc_ret (?_)))
        )
    all_goals first
    | refine aft_ret ?_
    | (refine aft_normal ?_
       refine wa_ (wa_ (wc_region (w_ (m_ (h:=w_ (m_ (h:=w_ (?_))))))))
       refine b_ (hv:=iv_sub (c:=b - m) (by omega) (by omega)) (h:=?_)
       refine w_ (bE (h:=wo_nil (e_ (h:=aft_normal (?_)))))
       refine c_ (h1:=?_) (h2:=?_)
       rotate_right 1
       focus
        intro c2
        first
        | exact dn c2
        | (have d2 := c2;try simp at d2
           have e2 : ¬ b - m = 1 := (by simp at c2;omega)
           refine wc_skip (?_)
           )
       rotate_right 1
       focus
        intro c2
        first
        | exact dn c2
        | (have d2 := c2;try simp at d2
           have e2 : b - m = 1 := (by simp at c2;omega);obtain ⟨q1,q2,_⟩ := hlf_ok (p:=fun h => !ltE (nth l m) (nth l h)) a m (by omega)
           refine wa_ (wc_region (w_ (m_ (h:=w_ (a_ (h:=wo_nil (e_ (h:=aft_normal (wa_ (wc_region (w_ (m_ (h:=w_ (a_ (h:=wo_nil (e_ (h:=aft_normal (?_))))))))))))))))))
           refine wa_ (wc_block (?_))
           refine wc_loop (l_s15_E m l.length l h4 rfl (by omega) (a,m) ⟨by simp only;omega,by simp only;omega⟩ _ (by simp [normE])) ?_
           refine blk_exit (aft_normal (wa_ (wa_ (wc_region (w_ (m_ (h:=w_ (a_ (h:=wo_nil (e_ (h:=aft_normal (wc_block (?_)))))))))))))
           refine wc_loop (l_s21_E (hlf (fun h => !ltE (nth l m) (nth l h)) a m) l.length h4 (m,l) ⟨by simp only;omega,by simp only;omega,rfl⟩ _ (by simp [normE])) ?_
           refine blk_exit (aft_normal (wc_ret (?_)))
           )
       all_goals first
       | refine aft_ret ?_
       | (refine aft_normal ?_
          refine wa_ (wc_region (w_ (m_ (h:=w_ (m_ (h:=w_ (?_)))))))
          refine b_ (hv:=iv_add (c:=a + b) (by simp) (by omega)) (h:=?_)
          refine w_ (?_)
          refine cvN (c:=a + b) (hc:=u64_nat (by omega)) (h:=?_)
          refine w_ (?_)
          refine sh (hv:=shr1) (h:=?_)
          refine w_ (?_)
          refine cvN (c:=(a + b) / 2) (hc:=wrap_nat (by omega)) (h:=?_)
          refine w_ (a_ (h:=wo_nil (e_ (h:=aft_normal (wa_ (wc_region (w_ (m_ (h:=w_ (m_ (h:=w_ (?_))))))))))))
          refine b_ (hv:=iv_add (c:=(a + b) / 2 + m) (by simp) (by omega)) (h:=?_)
          refine w_ (a_ (h:=wo_nil (e_ (h:=aft_normal (wa_ (wc_region (w_ (a_ (h:=w_ (a_ (h:=wo_nil (e_ (h:=aft_normal (wa_ (wa_ (wc_region (?_)))))))))))))))))
          refine w_ (m_ (h:=w_ (m_ (h:=w_ (b_ (h:=wo_nil (e_ (h:=aft_normal (?_)))))))))
          refine c_ (h1:=?_) (h2:=?_)
          rotate_right 1
          focus
           intro c3
           first
           | exact dn c3
           | (have d3 := c3;try simp at d3
              have e3 : ¬ (a + b) / 2 < m := (by simp at c3;omega);obtain ⟨i0,j0,hi0,hj0,hd⟩ : ∃ i j : Nat,i = a ∧ j = m ∧ ((a + b) / 2 < m ∧ i = (a + b) / 2 + m - b ∧ j = (a + b) / 2 ∨ ¬ (a + b) / 2 < m ∧ i = a ∧ j = m) := ⟨_,_,rfl,rfl,.inr ⟨e3,rfl,rfl⟩⟩
              refine wa_ (wc_region (w_ (m_ (h:=w_ (a_ (h:=wo_nil (e_ (h:=aft_normal (wc_region (w_ (m_ (h:=w_ (a_ (h:=wo_nil (e_ (h:=?_))))))))))))))))
              )
          rotate_right 1
          focus
           intro c3
           first
           | exact dn c3
           | (have d3 := c3;try simp at d3
              have e3 : (a + b) / 2 < m := (by simp at c3;omega);obtain ⟨i0,j0,hi0,hj0,hd⟩ : ∃ i j : Nat,i = (a + b) / 2 + m - b ∧ j = (a + b) / 2 ∧ ((a + b) / 2 < m ∧ i = (a + b) / 2 + m - b ∧ j = (a + b) / 2 ∨ ¬ (a + b) / 2 < m ∧ i = a ∧ j = m) := ⟨_,_,rfl,rfl,.inl ⟨e3,rfl,rfl⟩⟩
              refine wa_ (wc_region (w_ (m_ (h:=w_ (m_ (h:=w_ (?_)))))))
              refine b_ (hv:=iv_sub (c:=(a + b) / 2 + m - b) (by omega) (by omega)) (h:=?_)
              refine w_ (a_ (h:=wo_nil (e_ (h:=aft_normal (wc_region (w_ (m_ (h:=w_ (a_ (h:=wo_nil (e_ (h:=?_))))))))))))
              )
          all_goals first
          | (refine aft_normal ?_
             refine wa_ (wc_region (w_ (m_ (h:=w_ (?_)))))
             refine b_ (hv:=iv_sub (c:=(a + b) / 2 + m - 1) (by omega) (by omega)) (h:=?_)
             refine w_ (a_ (h:=wo_nil (e_ (h:=aft_normal (wa_ (wc_block (?_)))))))
             refine wc_loop (l_sym_E a m b l.length l h4 rfl h1 h2 h3 i0 j0 hd _ (by simp [normE,hi0,hj0])) ?_
             refine blk_exit (aft_normal (wa_ (wc_region (w_ (m_ (h:=w_ (m_ (h:=w_ (?_)))))))))
             refine b_ (hv:=iv_sub (c:=(a + b) / 2 + m - symS ltE a m b l) (by omega) (by omega)) (h:=?_)
             refine w_ (a_ (h:=wo_nil (e_ (h:=aft_normal (wa_ (wa_ (wc_region (w_ (m_ (h:=w_ (m_ (h:=w_ (b_ (h:=w_ (m_ (h:=?_))))))))))))))))
             refine gw_ (h1:=?_) (h2:=?_)
             rotate_right 1
             focus
              intro c4
              first
              | exact dn c4
              | (have d4 := c4;try simp at d4
                 refine go_ (h:=go_ (h:=go_ (h:=?_)))
                 )
             rotate_right 1
             focus
              intro c4
              first
              | exact dn c4
              | (have d4 := c4;try simp at d4
                 refine g_ (h:=w_ (m_ (h:=g_ (h:=w_ (m_ (h:=g_ (h:=w_ (b_ (h:=?_)))))))))
                 )
             all_goals
              refine w_ (pk (h:=wo_nil (e_ (h:=?_))))
             all_goals first
             | (refine aft_normal ?_
                refine c_ (h1:=?_) (h2:=?_)
                rotate_right 1
                focus
                 intro c5
                 first
                 | exact dn c5
                 | (have d5 := c5;try simp at d5
                    have e5 : ¬ (symS ltE a m b l < m ∧ m < (a + b) / 2 + m - symS ltE a m b l) := (by first | omega | (simp at c4;omega) | (simp at c5;omega));have hcut : cutR (symS ltE a m b l) m ((a + b) / 2) l = l := (by unfold cutR;rw [if_neg e5])
                    refine wc_skip (?_)
                    )
                rotate_right 1
                focus
                 intro c5
                 first
                 | exact dn c5
                 | (have d5 := c5;try simp at d5
                    have e5 : symS ltE a m b l < m ∧ m < (a + b) / 2 + m - symS ltE a m b l := (by simp at c5;omega);have hlr := (rot_ok (m:=m) (m - symS ltE a m b l) ((a + b) / 2 + m - symS ltE a m b l - m) l (by omega) (by omega)).1.length_eq;have hcut : cutR (symS ltE a m b l) m ((a + b) / 2) l = rot m (m - symS ltE a m b l) ((a + b) / 2 + m - symS ltE a m b l - m) l := (by unfold cutR;rw [if_pos e5])
                    refine wc_region (w_ (m_ (h:=w_ (m_ (h:=w_ (m_ (h:=w_ (m_ (h:=w_ (m_ (h:=w_ (?_))))))))))))
                    refine cI (hc:=e_rot_E (symS ltE a m b l) m ((a + b) / 2 + m - symS ltE a m b l) l h4 (by omega) (by omega) (by omega)) (hal:=ers_alk hlr.symm) (h:=?_)
                    refine wo_nil (e_ (h:=?_))
                    )
                )
             all_goals first
             | (refine aft_normal ?_
                refine wa_ (wa_ (wc_region (w_ (m_ (h:=w_ (m_ (h:=w_ (b_ (h:=w_ (m_ (h:=?_)))))))))))
                refine gw_ (h1:=?_) (h2:=?_)
                rotate_right 1
                focus
                 intro c6
                 first
                 | exact dn c6
                 | (have d6 := c6;try simp at d6
                    refine go_ (h:=go_ (h:=go_ (h:=?_)))
                    )
                rotate_right 1
                focus
                 intro c6
                 first
                 | exact dn c6
                 | (have d6 := c6;try simp at d6
                    refine g_ (h:=w_ (m_ (h:=g_ (h:=w_ (m_ (h:=g_ (h:=w_ (b_ (h:=?_)))))))))
                    )
                all_goals
                 refine w_ (pk (h:=wo_nil (e_ (h:=?_))))
                all_goals first
                | (refine aft_normal ?_
                   refine c_ (h1:=?_) (h2:=?_)
                   rotate_right 1
                   focus
                    intro c7
                    first
                    | exact dn c7
                    | (have d7 := c7;try simp at d7
                       have e7 : ¬ (a < symS ltE a m b l ∧ symS ltE a m b l < (a + b) / 2) := (by first | omega | (simp at c6;omega) | (simp at c7;omega));have h12 : (if a < symS ltE a m b l ∧ symS ltE a m b l < (a + b) / 2 then symM ltE f a (symS ltE a m b l) ((a + b) / 2) (cutR (symS ltE a m b l) m ((a + b) / 2) l) else cutR (symS ltE a m b l) m ((a + b) / 2) l) = cutR (symS ltE a m b l) m ((a + b) / 2) l := if_neg e7;rw [hcut] at h12
                       refine wc_skip (?_)
                       )
                   rotate_right 1
                   focus
                    intro c7
                    first
                    | exact dn c7
                    | (have d7 := c7;try simp at d7
                       have e7 : a < symS ltE a m b l ∧ symS ltE a m b l < (a + b) / 2 := (by simp at c7;omega);have hls := symM_len_E (lt:=ltE) f a (symS ltE a m b l) ((a + b) / 2) (cutR (symS ltE a m b l) m ((a + b) / 2) l) e7.1 e7.2 (by rw [hcut];omega);have h12 : (if a < symS ltE a m b l ∧ symS ltE a m b l < (a + b) / 2 then symM ltE f a (symS ltE a m b l) ((a + b) / 2) (cutR (symS ltE a m b l) m ((a + b) / 2) l) else cutR (symS ltE a m b l) m ((a + b) / 2) l) = symM ltE f a (symS ltE a m b l) ((a + b) / 2) (cutR (symS ltE a m b l) m ((a + b) / 2) l) := if_pos e7;rw [hcut] at hls h12
                       refine wc_region (w_ (m_ (h:=w_ (m_ (h:=w_ (m_ (h:=w_ (m_ (h:=w_ (m_ (h:=w_ (?_))))))))))))
                       first | refine cI (hc:=ih a (symS ltE a m b l) ((a + b) / 2) (rot m (m - symS ltE a m b l) ((a + b) / 2 + m - symS ltE a m b l - m) l) (by omega) (by omega) (by omega) (by omega) (by omega)) (hal:=ers_alk (symM_len_E f a (symS ltE a m b l) ((a + b) / 2) (rot m (m - symS ltE a m b l) ((a + b) / 2 + m - symS ltE a m b l - m) l) (by omega) (by omega) (by omega)).symm) (h:=?_) | refine cI (hc:=ih a (symS ltE a m b l) ((a + b) / 2) l (by omega) (by omega) (by omega) (by omega) (by omega)) (hal:=ers_alk (symM_len_E f a (symS ltE a m b l) ((a + b) / 2) l (by omega) (by omega) (by omega)).symm) (h:=?_)
                       refine wo_nil (e_ (h:=?_))
                       )
                   )
                all_goals first
                | (refine aft_normal ?_
                   refine wa_ (wc_region (w_ (m_ (h:=w_ (m_ (h:=w_ (b_ (h:=w_ (m_ (h:=?_))))))))))
                   refine gw_ (h1:=?_) (h2:=?_)
                   rotate_right 1
                   focus
                    intro c8
                    first
                    | exact dn c8
                    | (have d8 := c8;try simp at d8
                       refine go_ (h:=go_ (h:=go_ (h:=?_)))
                       )
                   rotate_right 1
                   focus
                    intro c8
                    first
                    | exact dn c8
                    | (have d8 := c8;try simp at d8
                       refine g_ (h:=w_ (m_ (h:=g_ (h:=w_ (m_ (h:=g_ (h:=w_ (b_ (h:=?_)))))))))
                       )
                   all_goals
                    refine w_ (pk (h:=wo_nil (e_ (h:=?_))))
                   all_goals first
                   | (refine aft_normal ?_
                      refine c_ (h1:=?_) (h2:=?_)
                      rotate_right 1
                      focus
                       intro c9
                       first
                       | exact dn c9
                       | (have d9 := c9;try simp at d9
                          have e9 : ¬ ((a + b) / 2 < (a + b) / 2 + m - symS ltE a m b l ∧ (a + b) / 2 + m - symS ltE a m b l < b) := (by first | omega | (simp at c8;omega) | (simp at c9;omega))
                          refine wc_skip (?_)
                          )
                      rotate_right 1
                      focus
                       intro c9
                       first
                       | exact dn c9
                       | (have d9 := c9;try simp at d9
                          have e9 : (a + b) / 2 < (a + b) / 2 + m - symS ltE a m b l ∧ (a + b) / 2 + m - symS ltE a m b l < b := (by simp at c9;omega)
                          refine wc_region (w_ (m_ (h:=w_ (m_ (h:=w_ (m_ (h:=w_ (m_ (h:=w_ (m_ (h:=w_ (?_))))))))))))
                          first | refine cI (hc:=ih ((a + b) / 2) ((a + b) / 2 + m - symS ltE a m b l) b (symM ltE f a (symS ltE a m b l) ((a + b) / 2) (rot m (m - symS ltE a m b l) ((a + b) / 2 + m - symS ltE a m b l - m) l)) (by omega) (by omega) (by omega) (by omega) (by omega)) (hal:=ers_alk (symM_len_E f ((a + b) / 2) ((a + b) / 2 + m - symS ltE a m b l) b (symM ltE f a (symS ltE a m b l) ((a + b) / 2) (rot m (m - symS ltE a m b l) ((a + b) / 2 + m - symS ltE a m b l - m) l)) (by omega) (by omega) (by omega)).symm) (h:=?_) | refine cI (hc:=ih ((a + b) / 2) ((a + b) / 2 + m - symS ltE a m b l) b (symM ltE f a (symS ltE a m b l) ((a + b) / 2) l) (by omega) (by omega) (by omega) (by omega) (by omega)) (hal:=ers_alk (symM_len_E f ((a + b) / 2) ((a + b) / 2 + m - symS ltE a m b l) b (symM ltE f a (symS ltE a m b l) ((a + b) / 2) l) (by omega) (by omega) (by omega)).symm) (h:=?_) | refine cI (hc:=ih ((a + b) / 2) ((a + b) / 2 + m - symS ltE a m b l) b (rot m (m - symS ltE a m b l) ((a + b) / 2 + m - symS ltE a m b l - m) l) (by omega) (by omega) (by omega) (by omega) (by omega)) (hal:=ers_alk (symM_len_E f ((a + b) / 2) ((a + b) / 2 + m - symS ltE a m b l) b (rot m (m - symS ltE a m b l) ((a + b) / 2 + m - symS ltE a m b l - m) l) (by omega) (by omega) (by omega)).symm) (h:=?_) | refine cI (hc:=ih ((a + b) / 2) ((a + b) / 2 + m - symS ltE a m b l) b l (by omega) (by omega) (by omega) (by omega) (by omega)) (hal:=ers_alk (symM_len_E f ((a + b) / 2) ((a + b) / 2 + m - symS ltE a m b l) b l (by omega) (by omega) (by omega)).symm) (h:=?_)
                          refine wo_nil (e_ (h:=?_))
                          )
                      )
                   )
                )
             )
          )
       )
    all_goals (refine fin_ (hr:=res_nil) (h:=?_);(focus (first | (rw [symM_1_E e1];rfl) | (simp [symM_1_E e1];done) | (rw [symM_2_E e1 e2];rfl) | (simp [symM_2_E e1 e2];done) | (simp only [symM,if_neg e1,if_neg e2,hcut];rw [h12];first | (rw [if_pos e9] <;> first | rfl | (simp;done)) | (rw [if_neg e9] <;> first | rfl | (simp;done))))))
end Go.Proofs.Ytgkbmiaimjpbfaa.Ev
