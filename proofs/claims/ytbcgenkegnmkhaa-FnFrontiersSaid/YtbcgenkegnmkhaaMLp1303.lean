/- Part 3 of the proof that the law named in the last part returns true at every argument: an evaluator of the program, shown sound, and its runs. No further conditions. -/
import Derived.Test.YtbcgenkegnmkhaaMLp1302
import Derived.Orders
import Derived.WalkKit
import Derived.ProofKit
import Derived.OpenShut
import Derived.ShutString
import Derived.ChangeOld
import Derived.Below
import Derived.Carry
import Derived.SizedLaws
namespace Go.Proofs.Ytbcgenkegnmkhaa.Ev
open Go
set_option linter.unusedSectionVars false
set_option linter.unusedSimpArgs false
section
variable {P : Program} {u : Nat→Prop} {h h0 : Hs} {sh : Nat→Prop} {w w0 : World} {fa : List Nat} {fp : Nat→List Nat} {s : St} {tm : Array Value} {a : Act}
def ResR (h : Hs) (sh u : Nat→Prop) (w : World) : List V→List Value→Prop
  | [],xs => xs = []
  | v :: r,xs => ∃ x q,xs = x :: q∧RelS h sh w v x∧(∀ o∈v.mention,u o)∧ResR h sh u w r q
theorem ResR.keep {h' : Hs} {sh' : Nat→Prop} {w' : World} (g : Goes u h sh w h' sh' w') : ∀ {vs : List V} {xs : List Value},ResR h sh u w vs xs→ResR h' sh' u w' vs xs
  | [],xs,r => r
  | v :: r,xs,hr => by
    simp only [ResR] at hr ⊢
    obtain ⟨x,q,e,r1,m1,r2⟩ := hr
    exact ⟨x,q,e,r1.keep g m1,m1,ResR.keep g r2⟩
theorem res_sound {cfg : Cfg} (C : CfgOK P cfg) (S : Sim w0 fa sh u h fp s a.tmps w) {g : ResultVar→Sem Value} (h1 : ∀ t,g (.tmp t) = pure (a.tmps.getD t undef)) (h2 : ∀ ad t,g (.cell ad t) = (do loadVar t (← asAddr (a.tmps.getD ad undef)))) :
    ∀ {l : List ResultVar} {vs : List V},resL cfg s l = some vs→∃ xs,(l.mapM g).run P w = .ok xs w∧ResR h sh u w vs xs
  | [],vs,he => by
    simp only [resL,Option.some.injEq] at he
    subst he
    exact ⟨[],rfl,rfl⟩
  | r :: l,vs,he => by
    simp only [resL] at he
    cases hr : resV cfg s r with
    | none => rw [hr] at he;cases he
    | some v =>
      rw [hr] at he
      simp only at he
      cases hq : resL cfg s l with
      | none => rw [hq] at he;cases he
      | some q =>
        rw [hq] at he
        simp only [mp_some,Option.some.injEq] at he
        subst he
        obtain ⟨xs,hrun,hR⟩ := res_sound C S h1 h2 hq
        have one : ∃ x,(g r).run P w = .ok x w∧RelS h sh w v x∧∀ o∈v.mention,u o := by
          cases r with
          | tmp t =>
            obtain ⟨k1,k2,_⟩ := opV_sound S (show opV s.env (.tmp t) = some v from hr)
            exact ⟨a.tmps.getD t undef,by rw [h1];rfl,k1,k2⟩
          | cell ad ty =>
            simp only [resV] at hr
            cases hz : cfg.zero ty with
            | none => rw [hz] at hr;cases hr
            | some z =>
              rw [hz] at hr
              simp only at hr
              cases hx : opV s.env (.tmp ad) with
              | none => rw [hx] at hr;cases hr
              | some vx =>
                rw [hx] at hr
                obtain ⟨p,x,e1,e2,e3,e4⟩ := load_sound C S hz hx hr
                refine ⟨x,?_,e3,e4⟩
                rw [h2]
                have e1' : a.tmps.getD ad undef = .pointer (some p) := e1
                rw [e1']
                have : (asAddr (.pointer (some p))).run P w = .ok p w := rfl
                rw [run_bind_ok this]
                exact e2
        obtain ⟨x,hx,k1,k2⟩ := one
        refine ⟨x :: xs,?_,x,xs,rfl,k1,k2,hR⟩
        rw [List.mapM_cons,run_bind_ok hx,run_bind_ok hrun]
        rfl
theorem ret_sound : ∀ {vs : List V} {xs : List Value} {h : Hs} {fp : Nat→List Nat} {s : St} {r : List V × St},Sim w0 fa sh u h fp s tm w→ResR h sh u w vs xs→V.fzL vs s = some r →
    ∃ h' fp' f,Freed w0 fa sh u h fp s sh h' fp' r.2 tm w f (fun _ => True)∧RetL h' sh w r.1 xs f∧∀ v∈r.1,v.isTup = false
  | [],xs,h,fp,s,r,S,hr,hv => by
    simp only [V.fzL,Option.some.injEq] at hv
    subst hv
    simp only [ResR] at hr
    subst hr
    exact ⟨h,fp,[],Freed.refl S _,⟨rfl,rfl⟩,fun v hv => by cases hv⟩
  | v :: q,xs,h,fp,s,r,S,hr,hv => by
    simp only [ResR] at hr
    obtain ⟨x,p,rfl,rx,hm,hr⟩ := hr
    simp only [V.fzL] at hv
    cases hx : v.fz s with
    | none => rw [hx] at hv;cases hv
    | some b =>
      rw [hx] at hv
      simp only at hv
      cases hq : V.fzL q b.2 with
      | none => rw [hq] at hv;cases hv
      | some c =>
        rw [hq] at hv
        simp only [mp_some,Option.some.injEq] at hv
        subst hv
        have ht := fz_not_tup hx
        have hn : v ≠ .und := fun e => by subst e;simp [V.fz] at hx
        have rc := relS_cells rx hn ht
        obtain ⟨h1,fp1,f1,F1,r1,m1⟩ := fz_sound S rc hm hx
        obtain ⟨h2,fp2,f2,F2,r2,t2⟩ := ret_sound F1.sim (hr.keep F1.goes) hq
        have hal := fz_shape (alike_refl v) hx
        refine ⟨h2,fp2,f1 ++ f2,(F1.trans F2).mono (fun _ _ => trivial),⟨x,p,f1,f2,rfl,rfl,⟨m1,?_⟩,r2⟩,?_⟩
        · have r1' : Rel h2 sh w b.1 x.cells.toList f1 := r1.any m1
          split
          · rename_i ys e
            rw [e] at r1' hal
            have : ∃ zs,v = .agg zs := by
              cases v <;> first | exact ⟨_,rfl⟩ | (simp [V.alike,V.aggOf] at hal)
            obtain ⟨zs,rfl⟩ := this
            obtain ⟨cs,rfl,_⟩ := rx
            simp only [Rel,Value.cells] at r1'
            exact ⟨cs,rfl,r1'⟩
          · rename_i hna
            have ha : v.aggOf = none := by
              cases hva : v.aggOf with
              | none => rfl
              | some zs =>
                have e := aggOf_some hva
                subst e
                cases hb : b.1.aggOf with
                | none => have := alike_agg hal;rw [hb] at this;simp [V.aggOf] at this
                | some ys => exact absurd (aggOf_some hb) (hna ys)
            rw [relS_one_cell rx hn ht ha] at r1'
            exact r1'
        · intro k hk
          rcases List.mem_cons.1 hk with rfl | hk
          · cases hb : b.1 with
            | tup zs =>
              rw [hb] at r1
              simp only [Rel] at r1
            | iop zs =>
              rw [hb] at r1
              simp only [Rel] at r1
            | _ => rfl
          · exact t2 k hk
theorem one_sound {vs : List V} {xs : List Value} {f : List Nat} (r : RetL h sh w vs xs f) (ht : ∀ v∈vs,v.isTup = false) : RetR h sh w (oneV vs) (if h : xs.length = 1 then xs[0] else .tuple xs.toArray) f := by
  have tup : ∀ {vs : List V} {xs : List Value} {f : List Nat},RetL h sh w vs xs f→xs.length = vs.length := by
    intro vs
    induction vs with
    | nil => intro xs f r;simp only [RetL] at r;rw [r.1];rfl
    | cons v q ih =>
      intro xs f r
      simp only [RetL] at r
      obtain ⟨x,p,f1,f2,rfl,_,_,r2⟩ := r
      simp [ih r2]
  have hl := tup r
  match vs,r,ht,hl with
  | [v],r,ht,hl =>
    simp only [RetL] at r
    obtain ⟨x,p,f1,f2,rfl,rfl,r1,rfl,rfl⟩ := r
    simp only [List.length_cons,List.length_nil,oneV,List.append_nil]
    have hv := ht v (List.mem_cons_self ..)
    unfold RetR
    split
    · simp [V.isTup] at hv
    · exact r1
  | [],r,ht,hl =>
    have : xs = [] := List.length_eq_zero_iff.1 hl
    subst this
    exact ⟨#[],rfl,r⟩
  | v :: v' :: q,r,ht,hl =>
    rw [dif_neg (by rw [hl];simp)]
    exact ⟨xs.toArray,rfl,by simpa using r⟩
theorem results_run {fn : Func} {xs : List Value} {tm : Array Value} (hr : ∀ g : ResultVar→Sem Value,(∀ t,g (.tmp t) = pure (tm.getD t undef))→(∀ ad t,g (.cell ad t) = (do loadVar t (← asAddr (tm.getD ad undef))))→(fn.results.toList.mapM g).run P w = .ok xs w) :
    (results fn tm).run P w = .ok (if h : xs.length = 1 then xs[0] else .tuple xs.toArray) w := by
  unfold results
  rw [Array.mapM_eq_mapM_toList]
  simp only [map_eq_pure_bind,bind_assoc,pure_bind]
  rw [run_bind_ok (hr _ (fun _ => rfl) (fun _ _ => rfl))]
  have : ∀ ys : Array Value,ys = xs.toArray→(pure (if h : ys.size = 1 then ys[0] else Value.tuple ys) : Sem Value).run P w = .ok (if h : xs.length = 1 then xs[0] else .tuple xs.toArray) w := by
    rintro ys rfl
    rw [run_pure']
    simp
  exact this _ rfl
theorem outs_sound : ∀ {args : List V} {i : Nat} {reals : List Value} {outs : List V} {k : List Nat} {h : Hs} {fp : Nat→List Nat} {s : St},Sim w0 fa sh u h fp s tm w→reals.length = args.length →
    (∀ j v x,args[j]? = some v→reals[j]? = some x→v.lentB = true→u (i + j)∧PinR v x (h.hd (i + j)))→Loose w0 fa sh s.obs fp w k→outsV i args s = some outs →
    ∃ fo,(∀ h',OutsR h' sh w args reals outs fo)∧(fo ++ k).Nodup∧∀ b∈fo,b < w.heap.size∧(b < w0.heap.size→b∈fa)∧¬ sh b
  | [],i,reals,outs,k,h,fp,s,S,hlen,hp,hl,ho => by
    simp only [outsV,Option.some.injEq] at ho
    subst ho
    exact ⟨[],fun h' => ⟨rfl,rfl⟩,hl.nd,fun b hb => by cases hb⟩
  | v :: r,i,reals,outs,k,h,fp,s,S,hlen,hp,hl,ho => by
    match reals,hlen,hp with
    | x :: q,hlen,hp =>
    have hlen' : q.length = r.length := by simpa using hlen
    have hp' : ∀ {h1 : Hs},h.Le u h1→∀ j v' x',r[j]? = some v'→q[j]? = some x'→v'.lentB = true→u (i + 1 + j)∧PinR v' x' (h1.hd (i + 1 + j)) := by
      intro h1 hle j v' x' e1 e2 hb
      obtain ⟨k1,k2⟩ := hp (j + 1) v' x' e1 e2 hb
      rw [show i + (j + 1) = i + 1 + j from by omega] at k1 k2
      exact ⟨k1,by rw [hle.hd _ k1];exact k2⟩
    simp only [outsV] at ho
    split at ho
    · rename_i sz ys
      obtain ⟨hui,hpin⟩ := hp 0 _ x rfl rfl rfl
      simp only [Nat.add_zero] at hui hpin
      cases hi : geta s.obs i with
      | none => rw [hi] at ho;cases ho
      | some ob =>
        rw [hi] at ho
        simp only at ho
        split at ho
        · cases ho
        rename_i hbx
        have hbx : ob.bx = false := by simpa using hbx
        cases hq : outsV (i + 1) r { s with obs := dela s.obs i } with
        | none => rw [hq] at ho;cases ho
        | some os =>
          rw [hq] at ho
          simp only [mp_some,Option.some.injEq] at ho
          subst ho
          have F := S.freeOb hi (List.Sublist.refl (fp i))
          have hb := F.beside hl
          obtain ⟨fo,hO,hnd,hok⟩ := outs_sound F.sim hlen' (hp' F.le) hb hq
          have hRO := (S.obs i ob hi).2
          have hmen : V.mentionL ob.xs = [] := by
            apply List.eq_nil_iff_forall_not_mem.2
            intro o ho
            obtain ⟨y,hy,ho⟩ := mem_mentionL.1 ho
            rw [(hRO.men y hy).1 hbx] at ho;cases ho
          refine ⟨fp i ++ fo,fun h' => ?_,?_,fun b hb' => ?_⟩
          · simp only [OutsR]
            refine ⟨x,q,ob.xs,os,fp i,fo,rfl,rfl,rfl,hmen,?_,hO h'⟩
            have hrow := hRO.row
            unfold PinR at hpin
            simp only at hpin
            split at hpin
            · rename_i e
              rw [e] at hrow
              exact .inl ⟨hpin,hrow.1,hrow.2.1⟩
            · rename_i b off c z e
              rw [e] at hrow
              obtain ⟨rfl,n,hx⟩ := hpin
              obtain ⟨k1,k2,k3,ds,fps,k4,k5,k6⟩ := hrow
              exact .inr ⟨b,off,n,c,ds,fps,hx,k4,k2,k3,k5,RelX.keep (goes_none (h:=h) (h' := h')) k6 (by rw [hmen];intro o ho;cases ho) (fun _ _ => rfl)⟩
          · have hp2 : (fo ++ (fp i ++ k)).Perm (fp i ++ fo ++ k) := by
              rw [← List.append_assoc]
              exact List.Perm.append_right k List.perm_append_comm
            exact hp2.nodup hnd
          · rcases List.mem_append.1 hb' with hb' | hb'
            · have := hb.ok b (List.mem_append_left _ hb')
              exact ⟨this.1,this.2.1,this.2.2.1⟩
            · exact hok b hb'
    · rename_i y0
      obtain ⟨hui,hpin⟩ := hp 0 _ x rfl rfl rfl
      simp only [Nat.add_zero] at hui hpin
      cases hi : geta s.obs i with
      | none => rw [hi] at ho;cases ho
      | some ob =>
        rw [hi] at ho
        simp only at ho
        split at ho
        · rename_i y hy
          split at ho
          · cases ho
          rename_i a hz
          cases hq : outsV (i + 1) r a.2 with
          | none => rw [hq] at ho;cases ho
          | some os =>
            rw [hq] at ho
            simp only [mp_some,Option.some.injEq] at ho
            subst ho
            obtain ⟨b,off,c,z,hd,rfl⟩ := hpin
            have hRO := (S.obs i ob hi).2
            have hrow := hRO.row
            rw [hd] at hrow
            obtain ⟨hz',hlc,hrw,ds,fps,hfp,hat,hX⟩ := hrow
            rw [hy] at hX hlc
            simp only [RelX] at hX
            obtain ⟨c1,c2,f1,f2,e1,e2,el,r1,rfl,rfl⟩ := hX
            simp only [List.append_nil] at e1 e2
            subst e1;subst e2
            have F := S.freeOb hi (f:=b :: fps) (by rw [hfp];exact List.Sublist.refl _)
            have hb := F.beside hl
            have hyu : ∀ o∈y.mention,u o := (hRO.men y (by rw [hy];exact List.mem_singleton.2 rfl)).2
            obtain ⟨h',fp',f',L,ra,na,la⟩ := fzI_sound (g:=fps) (k:=b :: k) F.sim r1 hyu (hb.perm (by
              show (b :: (fps ++ k)).Perm (fps ++ b :: k)
              exact (List.perm_middle (l₁:=fps) (l₂:=k) (a:=b)).symm)) hz
            obtain ⟨fo,hO,hnd,hok⟩ := outs_sound L.sim hlen' (hp' L.le) la hq
            refine ⟨(b :: f') ++ fo,fun h'' => ?_,?_,fun b1 hb1 => ?_⟩
            · simp only [OutsR]
              refine ⟨_,q,a.1,os,b :: f',fo,rfl,rfl,rfl,na,⟨b,off,ds,f',rfl,rfl,?_,hat,ra.any na⟩,hO h''⟩
              have hcl : a.1.cells = z := by rw [← alike_cells (fzI_alike (old:=.und) hz),← Rel.len r1,el]
              rw [hcl]
              obtain ⟨cs,e,k1,k2⟩ := hrw
              refine ⟨cs,e,k1,Nat.le_trans ?_ k2⟩
              simp only [List.length_cons,List.length_nil] at hlc
              have : 1 * z≤c * z := Nat.mul_le_mul_right _ hlc
              omega
            · have hp2 : (fo ++ (f' ++ b :: k)).Perm ((b :: f') ++ fo ++ k) := by
                have p1 : (f' ++ b :: k).Perm ((b :: f') ++ k) := List.perm_middle
                have p2 := List.Perm.append_left fo p1
                refine p2.trans ?_
                rw [← List.append_assoc]
                exact List.Perm.append_right k List.perm_append_comm
              exact hp2.nodup hnd
            · rcases List.mem_append.1 hb1 with hb1 | hb1
              · have : b1∈f' ++ b :: k := by
                  rcases List.mem_cons.1 hb1 with rfl | hb1
                  · simp
                  · simp [hb1]
                have := la.ok b1 this
                exact ⟨this.1,this.2.1,this.2.2.1⟩
              · exact hok b1 hb1
        · cases ho
    · rename_i n1 n2
      obtain ⟨fo,hO,hnd,hok⟩ := outs_sound S hlen' (hp' (Hs.Le.refl u h)) hl ho
      refine ⟨fo,fun h' => ?_,hnd,hok⟩
      unfold OutsR
      split
      · exact absurd rfl (n1 _ _)
      · exact absurd rfl (n2 _)
      · exact ⟨x,q,rfl,hO h'⟩
theorem fun_sound {cfg : Cfg} {orc : Orc} (C : CfgOK P cfg) (B : CodeOKs cfg) (O : OrcOK P cfg orc) (D : DrawOK P cfg orc.call) {f : FuncId} {args : List V} {v : V} {outs : List V} (he : runE orc cfg f args = some (v,outs)) :
    (∃ fn,P.funcs[f]? = some fn∧fn.body.isSome = true∧(fn.name == "runtime.NumGoroutine") = false) ∧
    ∀ h sh w reals fps,ArgsR h sh w args reals fps→fps.Nodup→(∀ b∈fps,b < w.heap.size∧¬ sh b)→(∀ b,sh b→b < w.heap.size)→Calls P f reals.toArray w (Post h sh w fps args reals v outs) := by
  unfold runE at he
  cases hf : cfg.code f with
  | none => rw [hf] at he;cases he
  | some fn =>
    rw [hf] at he
    simp only at he
    cases hb : fn.body with
    | none => rw [hb] at he;cases he
    | some body =>
      rw [hb] at he
      simp only at he
      split at he
      · rename_i hnp
        split at he
        · cases he
        · rename_i r hcode
          split at he
          · rename_i hend
            split at he
            · cases he
            · rename_i vs hres
              split at he
              · cases he
              · rename_i q hfz
                obtain ⟨os,hos,e⟩ := mp_some_inv he
                cases e
                refine ⟨⟨fn,C.code f fn hf,by rw [hb];rfl,B.name f fn hf⟩,fun h sh w reals fps hA hnd hok hsh => ?_⟩
                obtain ⟨ok1,ok2⟩ := B.ok f fn body hf hb
                refine calls_of_wp (C.code f fn hf) hb ?_
                have S0 : Sim w fps sh (fun _ => False) h (fun _ => []) ⟨[],[],args.length⟩ (reals.toArray ++ Array.replicate (fn.ntmps - reals.toArray.size) undef) w :=
                  ⟨Grew.refl _,fun _ _ _ => rfl,fun o ob e => (by cases e),fun o ob e => (by cases e),fun o o' ob ob' e => (by cases e),fun b hb => ⟨hsh b hb,fun o ob e => (by cases e)⟩,fun t v e => (by cases e)⟩
                have hl0 : Loose w fps sh ([] : List (Nat × Ob)) (fun _ => []) w (fps ++ []) := by
                  rw [List.append_nil]
                  exact ⟨hnd,fun b hb => ⟨(hok b hb).1,fun _ => hb,(hok b hb).2,fun o ob e => by cases e⟩⟩
                obtain ⟨u1,h1,fp1,S1,hu1,hle1,huu1,hpin1,hl1,hlen⟩ := bind_sound (i:=0) (k:=[]) S0 hA hl0 (fun q h => h.elim) (fun j x e => by
                  have hj := (List.getElem?_eq_some_iff.1 e).1
                  rw [Array.getD_eq_getD_getElem?,Array.getElem?_append_left (by simpa using hj)]
                  simp [e])
                let F : Fix := ⟨w,fps,sh,fn.ntmps,fn.params.size + fn.nfree,fun o => ∃ v x,args[o]? = some v∧reals[o]? = some x∧v.lentB = true,h1.hd,fun _ => False,h1,0⟩
                have I0 : Inv F ⟨(bindArgs 0 args).1,(bindArgs 0 args).2,args.length⟩ { tmps := reals.toArray ++ Array.replicate (fn.ntmps - reals.toArray.size) undef,defers := [] } w := by
                  refine ⟨sh,u1,h1,fp1,S1.same (fun t => by simp) (fun o => by simp),fun q hq => ?_,⟨fun _ h => h,fun _ h => .inl h,?_,rfl,?_,Hs.Le.refl _ _,fun _ h => h.elim,fun _ _ => .inr (Nat.zero_le _)⟩,Nat.zero_le _⟩
                  · rcases hu1 q hq with hq | hq
                    · exact hq.elim
                    · simpa using hq.2
                  · simp only [F,Array.size_append,Array.size_replicate];omega
                  · rintro o ⟨v,x,e1,e2,e3⟩
                    have hlt := (List.getElem?_eq_some_iff.1 e1).1
                    have := (hpin1 o v x e1 e2 e3).1
                    rw [Nat.zero_add] at this
                    exact ⟨by simp only [F];omega,this,rfl⟩
                have hwp := code_sound C O D hf hb (F:=F) rfl rfl (.inl ⟨fun _ h => h,rfl⟩) ok1 (loopsIn_of ok2 (fun k _ => rfl)) I0 hcode
                refine wp_mono hwp ?_
                rintro ex a w' ⟨rfl,sh2,u2,h2,fp2,S2,hu2,H,_⟩
                have fin : a.defers = []∧∃ x,(results fn a.tmps).run P w' = .ok x w'∧Post h sh w fps args reals (oneV q.1) outs (.returned x) w' := by
                  refine ⟨H.d,?_⟩
                  obtain ⟨xs,hR⟩ : ∃ xs,∀ g : ResultVar→Sem Value,(∀ t,g (.tmp t) = pure (a.tmps.getD t undef))→(∀ ad t,g (.cell ad t) = (do loadVar t (← asAddr (a.tmps.getD ad undef))))→(fn.results.toList.mapM g).run P w' = .ok xs w'∧ResR h2 sh2 u2 w' vs xs := by
                    obtain ⟨xs,e1,e2⟩ := res_sound C S2 (g:=fun | .tmp t => pure (a.tmps.getD t undef) | .cell ad t => (do loadVar t (← asAddr (a.tmps.getD ad undef)))) (fun _ => rfl) (fun _ _ => rfl) hres
                    refine ⟨xs,fun g k1 k2 => ?_⟩
                    have : g = (fun | .tmp t => pure (a.tmps.getD t undef) | .cell ad t => (do loadVar t (← asAddr (a.tmps.getD ad undef)))) := by
                      funext r;cases r with
                      | tmp t => exact k1 t
                      | cell ad t => exact k2 ad t
                    rw [this]
                    exact ⟨e1,e2⟩
                  have hrun := results_run (P:=P) (w:=w') (fn:=fn) (tm:=a.tmps) (xs:=xs) (fun g k1 k2 => (hR g k1 k2).1)
                  have hRR := (hR (fun | .tmp t => pure (a.tmps.getD t undef) | .cell ad t => (do loadVar t (← asAddr (a.tmps.getD ad undef)))) (fun _ => rfl) (fun _ _ => rfl)).2
                  obtain ⟨h3,fp3,fr,F3,hret,htup⟩ := ret_sound S2 hRR hfz
                  obtain ⟨fo,hO,hnd2,hok2⟩ := outs_sound (i:=0) F3.sim hlen (fun j v x e1 e2 e3 => by
                    obtain ⟨k1,k2,k3⟩ := H.pin j ⟨v,x,e1,e2,e3⟩
                    rw [Nat.zero_add]
                    refine ⟨k2,?_⟩
                    rw [F3.le.hd j k2,k3]
                    have := (hpin1 j v x e1 e2 e3).2
                    rw [Nat.zero_add] at this
                    exact this) F3.loose hos
                  refine ⟨_,hrun,_,rfl,h3,sh2,fr,fo,⟨one_sound hret htup,hO h3,(List.perm_append_comm (l₁:=fo)).nodup hnd2,fun b hb => ?_,S2.size,fun b hb hn => S2.old b hb hn,H.s0,fun b hb => ⟨(S2.shr b hb).1,H.s1 b hb⟩⟩⟩
                  rcases List.mem_append.1 hb with hb | hb
                  · have := F3.loose.ok b hb
                    exact ⟨this.1,this.2.1,this.2.2.1⟩
                  · exact hok2 b hb
                rcases hend with e | e
                · rw [e];exact fin
                · rw [e];exact fin
          · cases he
      · cases he
end
section
variable {P : Program} {u : Nat→Prop} {h : Hs} {sh : Nat→Prop} {w : World}
theorem raw_env : ∀ {vs : List V} {xs : List Value} {i t : Nat} {v : V},ValsR h sh u w vs xs→geta (rawArgs i vs) t = some v→∃ x,i≤t∧xs[t - i]? = some x∧RelS h sh w v x∧∀ o∈v.mention,u o
  | [],xs,i,t,v,_,e => by cases e
  | y :: r,xs,i,t,v,hr,e => by
    simp only [ValsR] at hr
    obtain ⟨x,q,rfl,r1,m1,_,r2⟩ := hr
    simp only [rawArgs,geta] at e
    split at e
    · rename_i ht
      subst ht
      cases e
      exact ⟨x,Nat.le_refl _,by simp,r1,m1⟩
    · rename_i ht
      obtain ⟨x',h1,h2,h3⟩ := raw_env r2 e
      refine ⟨x',by omega,?_,h3⟩
      rw [show t - i = (t - (i + 1)) + 1 from by omega,List.getElem?_cons_succ]
      exact h2
theorem vals_len : ∀ {vs : List V} {xs : List Value},ValsR h sh u w vs xs→xs.length = vs.length
  | [],xs,r => by simp only [ValsR] at r;rw [r];rfl
  | y :: q,xs,r => by
    simp only [ValsR] at r
    obtain ⟨x,p,rfl,_,_,_,r2⟩ := r
    simp [vals_len r2]
theorem geta_of_mem {α : Type} : ∀ {l : List (Nat × α)} {e : Nat × α},e∈l→∃ v,geta l e.1 = some v
  | (k,v) :: r,e,h => by
    simp only [geta]
    by_cases hk : k = e.1
    · exact ⟨v,if_pos hk⟩
    · rw [if_neg hk]
      rcases List.mem_cons.1 h with rfl | h
      · exact absurd rfl hk
      · exact geta_of_mem h
theorem relS_plain {v : V} {x : Value} (ht : v.isTup = false) (r : RelS h sh w v x) : RelS0 h sh w v x := by
  cases v <;> first | exact r | (simp [V.isTup] at ht;done)
theorem res_list : ∀ {vs : List V} {xs : List Value},ResR h sh u w vs xs→(∀ v∈vs,v.isTup = false)→xs.length = vs.length∧RelSL h sh w vs xs∧∀ o∈V.mentionL vs,u o
  | [],xs,r,_ => by simp only [ResR] at r;subst r;exact ⟨rfl,rfl,fun o ho => by cases ho⟩
  | v :: q,xs,r,ht => by
    simp only [ResR] at r
    obtain ⟨x,p,rfl,r1,m1,r2⟩ := r
    obtain ⟨k1,k2,k3⟩ := res_list r2 (fun v hv => ht v (List.mem_cons_of_mem _ hv))
    refine ⟨by simp [k1],⟨x,p,rfl,relS_plain (ht v (List.mem_cons_self ..)) r1,k2⟩,fun o ho => ?_⟩
    simp only [V.mentionL,List.mem_append] at ho
    rcases ho with ho | ho
    · exact m1 o ho
    · exact k3 o ho
theorem one_raw {vs : List V} {xs : List Value} (r : ResR h sh u w vs xs) (ht : ∀ v∈vs,v.isTup = false) : RelS h sh w (oneV vs) (if h : xs.length = 1 then xs[0] else .tuple xs.toArray)∧∀ o∈(oneV vs).mention,u o := by
  obtain ⟨k1,k2,k3⟩ := res_list r ht
  match vs,r,k1,k2,k3 with
  | [v],r,k1,k2,k3 =>
    simp only [ResR] at r
    obtain ⟨x,p,rfl,r1,m1,rfl⟩ := r
    simp only [List.length_cons,List.length_nil,oneV]
    exact ⟨r1,m1⟩
  | [],r,k1,k2,k3 =>
    have : xs = [] := List.length_eq_zero_iff.1 k1
    subst this
    exact ⟨⟨#[],rfl,k2⟩,k3⟩
  | v :: v' :: q,r,k1,k2,k3 =>
    rw [dif_neg (by rw [k1];simp)]
    exact ⟨⟨xs.toArray,rfl,by simpa using k2⟩,k3⟩
theorem inl_sound {cfg : Cfg} {call : Call} (C : CfgOK P cfg) (B : CodeOKs cfg) (K : CallOK P call) (J : InlOK P call) (D : DrawOK P cfg call) : ∀ f vs s id v s',inlE call cfg f vs s id = some (v,s')→(∃ fn,P.funcs[f]? = some fn∧fn.body.isSome = true∧(fn.name == "runtime.NumGoroutine") = false) ∧
    ∀ w0 fa sh u h fp tm w reals,Sim w0 fa sh u h fp s tm w→(∀ q,u q→q < id)→ValsR h sh u w vs reals→Calls P f reals.toArray w (fun e w' => ∃ x,e = .returned x∧TurnE w0 fa sh u h s' tm id s'.nxt v x w') := by
  intro f vs s id v s' he
  unfold inlE at he
  cases hf : cfg.code f with
  | none => rw [hf] at he;cases he
  | some fn =>
    rw [hf] at he
    simp only at he
    cases hb : fn.body with
    | none => rw [hb] at he;cases he
    | some body =>
      rw [hb] at he
      simp only at he
      split at he
      · rename_i hnp
        split at he
        · cases he
        · rename_i r hcode
          split at he
          · rename_i hend
            split at he
            · cases he
            · rename_i ws hres
              split at he
              · rename_i htup
                cases he
                refine ⟨⟨fn,C.code f fn hf,by rw [hb];rfl,B.name f fn hf⟩,fun w0 fa sh u h fp tm w reals S hu hV => ?_⟩
                obtain ⟨ok1,ok2⟩ := B.ok f fn body hf hb
                refine calls_of_wp (C.code f fn hf) hb ?_
                have hlen := vals_len hV
                have fa_of : ∀ b,b∈s.obs.flatMap (fun e => fp e.1)→∃ o ob,geta s.obs o = some ob∧b∈fp o := by
                  intro b hb
                  obtain ⟨e,he,hb⟩ := List.mem_flatMap.1 hb
                  obtain ⟨ob,ho⟩ := geta_of_mem he
                  exact ⟨e.1,ob,ho,hb⟩
                have mem_of : ∀ o ob,geta s.obs o = some ob→∀ b∈fp o,b∈s.obs.flatMap (fun e => fp e.1) := by
                  intro o ob ho b hb
                  have hk : ∀ {l : List (Nat × Ob)},geta l o = some ob→(o,ob)∈l := by
                    intro l
                    induction l with
                    | nil => intro e;cases e
                    | cons e r ih =>
                      obtain ⟨k,y⟩ := e
                      intro he
                      simp only [geta] at he
                      split at he
                      · rename_i hk;subst hk;cases he;exact List.mem_cons_self ..
                      · exact List.mem_cons_of_mem _ (ih he)
                  exact List.mem_flatMap.2 ⟨(o,ob),hk ho,hb⟩
                have S0 : Sim w (s.obs.flatMap (fun e => fp e.1)) sh u h fp ⟨rawArgs 0 vs,s.obs,id⟩ (reals.toArray ++ Array.replicate (fn.ntmps - reals.toArray.size) undef) w := by
                  refine ⟨Grew.refl _,fun _ _ _ => rfl,S.obs,fun o ob e => ⟨(S.own o ob e).1,fun b hb => ⟨((S.own o ob e).2 b hb).1,fun _ => mem_of o ob e b hb⟩⟩,S.apart,S.shr,fun t v e => ?_⟩
                  obtain ⟨x,_,h2,h3,h4⟩ := raw_env hV e
                  rw [Nat.sub_zero] at h2
                  refine ⟨h4,?_⟩
                  have hj := (List.getElem?_eq_some_iff.1 h2).1
                  have ex : (reals.toArray ++ Array.replicate (fn.ntmps - reals.toArray.size) undef).getD t undef = x := by
                    rw [Array.getD_eq_getD_getElem?,Array.getElem?_append_left (by simpa using hj)]
                    simp [h2]
                  rw [ex];exact h3
                let F : Fix := ⟨w,s.obs.flatMap (fun e => fp e.1),sh,fn.ntmps,fn.params.size + fn.nfree,fun _ => False,fun _ => none,u,h,id⟩
                have I0 : Inv F ⟨rawArgs 0 vs,s.obs,id⟩ { tmps := reals.toArray ++ Array.replicate (fn.ntmps - reals.toArray.size) undef,defers := [] } w := by
                  refine ⟨sh,u,h,fp,S0,hu,⟨fun _ h => h,fun _ h => .inl h,?_,rfl,fun o ho => ho.elim,Hs.Le.refl _ _,fun _ h => h,fun _ h => .inl h⟩,Nat.le_refl _⟩
                  simp only [F,Array.size_append,Array.size_replicate];omega
                have hwp := code_sound C (orc:=⟨call,loopU call cfg 6⟩) ⟨K,J,fun fn k s r e func full body h1 h2 h3 F a w _ h4 h5 I => loopU_sound C B K J D 6 fn k s r e func full body h1 h2 h3 F a w h4 h5 I⟩ D hf hb (F:=F) rfl rfl (.inr fun k s r e body h3 a w I => loopU_sound C B K J D 6 f k s r e fn _ body hf hb h3 F a w rfl rfl I) ok1 (loopsIn_of ok2 (fun k _ => rfl)) I0 hcode
                refine wp_mono hwp ?_
                rintro ex a w' ⟨rfl,sh2,u2,h2,fp2,S2,hu2,H,hb2⟩
                have fin : a.defers = []∧∃ x,(results fn a.tmps).run P w' = .ok x w'∧∃ x',Ending.returned x = .returned x'∧TurnE w0 fa sh u h ⟨s.env,r.2.obs,r.2.nxt⟩ tm id r.2.nxt (oneV ws) x' w' := by
                  refine ⟨H.d,?_⟩
                  obtain ⟨xs,hR⟩ : ∃ xs,∀ g : ResultVar→Sem Value,(∀ t,g (.tmp t) = pure (a.tmps.getD t undef))→(∀ ad t,g (.cell ad t) = (do loadVar t (← asAddr (a.tmps.getD ad undef))))→(fn.results.toList.mapM g).run P w' = .ok xs w'∧ResR h2 sh2 u2 w' ws xs := by
                    obtain ⟨xs,e1,e2⟩ := res_sound C S2 (g:=fun | .tmp t => pure (a.tmps.getD t undef) | .cell ad t => (do loadVar t (← asAddr (a.tmps.getD ad undef)))) (fun _ => rfl) (fun _ _ => rfl) hres
                    refine ⟨xs,fun g k1 k2 => ?_⟩
                    have : g = (fun | .tmp t => pure (a.tmps.getD t undef) | .cell ad t => (do loadVar t (← asAddr (a.tmps.getD ad undef)))) := by
                      funext r;cases r with
                      | tmp t => exact k1 t
                      | cell ad t => exact k2 ad t
                    rw [this]
                    exact ⟨e1,e2⟩
                  have hrun := results_run (P:=P) (w:=w') (fn:=fn) (tm:=a.tmps) (xs:=xs) (fun g k1 k2 => (hR g k1 k2).1)
                  have hRR := (hR (fun | .tmp t => pure (a.tmps.getD t undef) | .cell ad t => (do loadVar t (← asAddr (a.tmps.getD ad undef)))) (fun _ => rfl) (fun _ _ => rfl)).2
                  obtain ⟨k1,k2⟩ := one_raw hRR (fun v hv => by
                    rw [List.all_eq_true] at htup
                    simpa using htup v hv)
                  refine ⟨_,hrun,_,rfl,sh2,u2,h2,fp2,?_,k1,k2,fun q hq => ?_,H.s0,fun b hb => ?_,H.le,H.uu⟩
                  · have back : ∀ b,b < w0.heap.size→b∈s.obs.flatMap (fun e => fp e.1)→b∈fa := by
                      intro b hlt hb
                      obtain ⟨o,ob,ho,hb⟩ := fa_of b hb
                      exact ((S.own o ob ho).2 b hb).2 hlt
                    refine ⟨S.size.trans S2.size,fun b hlt hn => ?_,S2.obs,fun o ob e => ⟨(S2.own o ob e).1,fun b hb => ⟨((S2.own o ob e).2 b hb).1,fun hlt => back b hlt (((S2.own o ob e).2 b hb).2 (Nat.lt_of_lt_of_le hlt S.size.sz))⟩⟩,S2.apart,S2.shr,fun t v e => ?_⟩
                    · exact (S2.old b (Nat.lt_of_lt_of_le hlt S.size.sz) (fun hb => hn (back b hlt hb))).trans (S.old b hlt hn)
                    · obtain ⟨m1,m2⟩ := S.env t v e
                      refine ⟨fun o ho => H.uu o (m1 o ho),m2.keep (w' := w') (sh' := sh2) (h' := h2) ⟨H.le,fun b hb => ⟨H.s0 b hb,S2.old b (S.shr b hb).1 (fun hm => ?_)⟩⟩ m1⟩
                      obtain ⟨o,ob,ho,hm⟩ := fa_of b hm
                      exact (S.shr b hb).2 o ob ho hm
                  · rcases H.un q hq with h | h
                    · exact .inl h
                    · exact .inr ⟨h,hu2 q hq⟩
                  · rcases H.s1 b hb with h | h
                    · exact .inl h
                    · refine .inr fun hlt => ?_
                      obtain ⟨o,ob,ho,hm⟩ := fa_of b (h (Nat.lt_of_lt_of_le hlt S.size.sz))
                      exact ((S.own o ob ho).2 b hm).2 hlt
                rcases hend with e | e
                · rw [e];exact fin
                · rw [e];exact fin
              · cases he
          · cases he
      · cases he
end
end Go.Proofs.Ytbcgenkegnmkhaa.Ev
namespace Go.Proofs.Ytbcgenkegnmkhaa.Ev
open Go
set_option linter.unusedSectionVars false
set_option linter.unusedSimpArgs false
noncomputable def callX (ext : Call) (orc : Orc) (cfg : Cfg) (f : FuncId) (args : List V) : Option (V × List V) :=
  match ext f args with
  | some r => some r
  | none => callE orc cfg f args
noncomputable def orcN (ext : Call) (cfg : Cfg) : Nat→Orc
  | 0 => ⟨⟨fun _ _ => none,fun _ _ _ _ => none⟩,fun _ _ _ => none⟩
  | n + 1 => ⟨⟨callX ext (orcN ext cfg n) cfg,inE (orcN ext cfg n).call cfg⟩,loopE (orcN ext cfg n) cfg⟩
noncomputable def lim (ext : Call) (cfg : Cfg) : Orc where
  call := ⟨fun f asv => open Classical in if h : ∃ n,((orcN ext cfg n).call f asv).isSome = true then (orcN ext cfg h.choose).call f asv else none,
    fun f vs s id => open Classical in if h : ∃ n,((orcN ext cfg n).call.i f vs s id).isSome = true then (orcN ext cfg h.choose).call.i f vs s id else none⟩
  loop fn k s := open Classical in if h : ∃ n,((orcN ext cfg n).loop fn k s).isSome = true then (orcN ext cfg h.choose).loop fn k s else none
theorem opE_at {c1 : Call} {cfg : Cfg} {id base : Nat} {s : St} {ty : TypeId} {o : Op} {x : V × St} (he : opE c1 cfg id base s ty o = some x) :
    (∃ f asv r,c1 f asv = some r∧∀ c2 : Call,c2 f asv = some r→opE c2 cfg id base s ty o = some x)∨(∃ f vs s' id' r,c1.i f vs s' id' = some r∧∀ c2 : Call,c2.i f vs s' id' = some r→opE c2 cfg id base s ty o = some x)∨∀ c2 : Call,opE c2 cfg id base s ty o = some x := by
  by_cases hc : ∃ c,o = .call c
  · obtain ⟨c,rfl⟩ := hc
    simp only [opE] at he ⊢
    cases h1 : opsV s.env c.args.toList with
    | none => rw [h1] at he;cases he
    | some vs =>
      rw [h1] at he
      simp only at he ⊢
      cases h2 : c.callee with
      | builtin b => rw [h2] at he;exact .inr (.inr fun _ => he)
      | invoke r nm => rw [h2] at he;cases he
      | value fo =>
        rw [h2] at he
        simp only at he ⊢
        cases h3 : opV s.env fo with
        | none => rw [h3] at he;cases he
        | some v =>
          rw [h3] at he
          simp only at he ⊢
          cases v with
          | clo f cs =>
            simp only at he ⊢
            split at he
            · rename_i hk
              split at he
              · rename_i hb
                exact .inr (.inl ⟨f,_,_,_,_,he,fun c2 h6 => by rw [if_pos hk,if_pos hb];exact h6⟩)
              · rename_i hb
                obtain ⟨asv,r,h4,h5⟩ := callV_at he
                exact .inl ⟨f,asv,r,h4,fun c2 h6 => by rw [if_pos hk,if_neg hb];exact h5 c2 h6⟩
            · cases he
          | _ => cases he
  · right;right
    intro c2
    cases o with
    | call c => exact absurd ⟨c,rfl⟩ hc
    | makeFunc fn a b => cases fn <;> exact he
    | slice t x l h m => cases m <;> exact he
    | _ => exact he
structure Call.le (a b : Call) : Prop where
  c : ∀ f asv r,a f asv = some r→b f asv = some r
  i : ∀ f vs s id r,a.i f vs s id = some r→b.i f vs s id = some r
theorem Call.le.pick {a b : Call} (h : a.le b) (d : Bool) : (a.pick d).le (b.pick d) := by
  cases d with
  | true => exact ⟨fun f v r e => h.c f v r e,fun f v s i r e => by cases e⟩
  | false => exact h
structure Orc.le (a b : Orc) : Prop where
  call : a.call.le b.call
  loop : ∀ fn k s r,a.loop fn k s = some r→b.loop fn k s = some r
section
variable {a b : Orc} {cfg : Cfg}
theorem opE_le {a b : Call} (h : a.le b) {id base : Nat} {s : St} {ty : TypeId} {o : Op} {x : V × St} (he : opE a cfg id base s ty o = some x) : opE b cfg id base s ty o = some x := by
  rcases opE_at he with ⟨f,asv,r,h1,h2⟩ | ⟨f,vs,s',id',r,h1,h2⟩ | h2
  · exact h2 _ (h.c f asv r h1)
  · exact h2 _ (h.i f vs s' id' r h1)
  · exact h2 _
theorem opsE_le (h : a.le b) {draw : Bool} {all : List Oper} {base : Nat} : ∀ {rest : List Oper} {i : Nat} {s : St} {tr : List (List (Nat × Acc))} {x : St × List (List (Nat × Acc))},opsE a.call cfg draw all base i rest s tr = some x→opsE b.call cfg draw all base i rest s tr = some x
  | [],i,s,tr,x,he => he
  | o :: r,i,s,tr,x,he => by
    simp only [opsE] at he ⊢
    split at he
    · cases he
    · rename_i hg
      try rw [hg]
      try simp only
      split at he
      · cases he
      · rename_i y hy
        rw [opE_le (h.call.pick draw) hy]
        exact opsE_le h he
    · rename_i hg
      try rw [hg]
      exact opsE_le h he
theorem regionE_le (h : a.le b) {ops : List Oper} {draw : Bool} {s : St} {x : St} (he : regionE a.call cfg ops draw s = some x) : regionE b.call cfg ops draw s = some x := by
  unfold regionE at he ⊢
  split at he
  · cases he
  · rename_i y hy
    rw [opsE_le h hy]
    exact he
theorem callA_at {c1 : Call} {s : St} {f : FuncId} {vs : List V} {v : V} (he : callA c1 cfg s f vs = some v) : ∃ asv r,c1 f asv = some r∧∀ c2 : Call,c2 f asv = some r→callA c2 cfg s f vs = some v := by
  unfold callA at he
  split at he
  case h_2 => cases he
  rename_i q n
  split at he
  case isFalse => cases he
  rename_i hm
  split at he
  · cases he
  rename_i ob hob
  split at he
  case isFalse => cases he
  rename_i hc
  split at he
  · cases he
  rename_i ys hys
  split at he
  case h_2 => cases he
  rename_i k n hcall
  refine ⟨_,_,hcall,fun c2 h6 => ?_⟩
  simp only [callA,if_pos hm,hob,if_pos hc,hys,h6]
  exact he
theorem opA_at {c1 : Call} {k id base : Nat} {s : St} {ty : TypeId} {o : Op} {x : V × St} (he : opA c1 cfg k id base s ty o = some x) :
    (∃ f asv r,c1 f asv = some r∧∀ c2 : Call,c2 f asv = some r→opA c2 cfg k id base s ty o = some x)∨(∃ f vs s' id' r,c1.i f vs s' id' = some r∧∀ c2 : Call,c2.i f vs s' id' = some r→opA c2 cfg k id base s ty o = some x)∨∀ c2 : Call,opA c2 cfg k id base s ty o = some x := by
  unfold opA at he ⊢
  cases hb : opB cfg k id base s o with
  | some r => rw [hb] at he;exact .inr (.inr fun _ => he)
  | none =>
    rw [hb] at he
    simp only at he ⊢
    cases hc : alCall s o with
    | some r =>
      rw [hc] at he
      simp only at he ⊢
      obtain ⟨v1,h3,e⟩ := mp_some_inv he
      obtain ⟨asv,q,h4,h5⟩ := callA_at h3
      exact .inl ⟨_,asv,q,h4,fun c2 h6 => by rw [h5 c2 h6,← e];rfl⟩
    | none =>
      rw [hc] at he
      simp only at he ⊢
      exact opE_at he
theorem opA_le {a b : Call} (h : a.le b) {k id base : Nat} {s : St} {ty : TypeId} {o : Op} {x : V × St} (he : opA a cfg k id base s ty o = some x) : opA b cfg k id base s ty o = some x := by
  rcases opA_at he with ⟨f,asv,r,h1,h2⟩ | ⟨f,vs,s',id',r,h1,h2⟩ | h2
  · exact h2 _ (h.c f asv r h1)
  · exact h2 _ (h.i f vs s' id' r h1)
  · exact h2 _
theorem opsA_le (h : a.le b) {k : Nat} {all : List Oper} {base : Nat} : ∀ {rest : List Oper} {s : St} {x : St},opsA a.call cfg k all base rest s = some x→opsA b.call cfg k all base rest s = some x
  | [],s,x,he => he
  | o :: r,s,x,he => by
    simp only [opsA] at he ⊢
    split at he
    · cases he
    · rename_i hg
      try rw [hg]
      try simp only
      split at he
      · cases he
      · rename_i y hy
        rw [opA_le h.call hy]
        exact opsA_le h he
    · rename_i hg
      try rw [hg]
      exact opsA_le h he
theorem regionX_le (h : a.le b) {k : Nat} {ops : List Oper} {draw : Bool} {s : St} {x : St} (he : regionX a.call cfg k ops draw s = some x) : regionX b.call cfg k ops draw s = some x := by
  unfold regionX at he ⊢
  split at he
  · rename_i hk;rw [if_pos hk];exact regionE_le h he
  · rename_i hk;rw [if_neg hk]
    split at he
    · cases he
    · rename_i hd;rw [if_neg hd];exact opsA_le h he
theorem codeE_le (h : a.le b) {fn : FuncId} : ∀ {c : Code} {s : St} {x : Ext × St},codeE a cfg fn c s = some x→codeE b cfg fn c s = some x
  | .region id ops draw,s,x,he => by
    simp only [codeE] at he ⊢
    split at he
    · cases he
    · rename_i y hy
      rw [regionX_le h hy]
      exact he
  | .seq p q,s,x,he => by
    simp only [codeE] at he ⊢
    split at he
    · cases he
    · rename_i y hy
      rw [codeE_le h hy]
      exact codeE_le h he
    · rename_i y hne hy
      rw [codeE_le h hy]
      obtain ⟨e,s1⟩ := y
      cases e with
      | normal => exact absurd rfl (hne s1)
      | ret => exact he
      | exit i => exact he
  | .cond c p q,s,x,he => by
    simp only [codeE] at he ⊢
    split at he
    · rename_i hc;try rw [hc]
      exact codeE_le h he
    · rename_i hc;try rw [hc]
      exact codeE_le h he
    · cases he
  | .block id p,s,x,he => by
    simp only [codeE] at he ⊢
    split at he
    · cases he
    · rename_i i s1 hy
      rw [codeE_le h hy]
      exact he
    · rename_i y hne hy
      rw [codeE_le h hy]
      obtain ⟨e,s1⟩ := y
      cases e with
      | normal => exact he
      | ret => exact he
      | exit i => exact absurd rfl (hne i s1)
  | .loop p,s,x,he => by
    simp only [codeE] at he ⊢
    exact h.loop _ _ _ _ he
  | .skip,s,x,he => he
  | .exit _,s,x,he => he
  | .ret,s,x,he => he
  | .scope _,s,x,he => he
  | .rangeFunc ..,s,x,he => he
  | .label _,s,x,he => he
  | .goto _,s,x,he => he
  | .refuse _,s,x,he => he
theorem loopE_le (h : a.le b) {fn : FuncId} {k : Nat} {s : St} {x : Ext × St} (he : loopE a cfg fn k s = some x) : loopE b cfg fn k s = some x := by
  unfold loopE at he ⊢
  split at he
  · cases he
  · split at he
    · cases he
    · split at he
      · cases he
      · rename_i s1 hy
        rw [codeE_le h hy]
        exact h.loop _ _ _ _ he
      · rename_i e s1 hne hy
        rw [codeE_le h hy]
        cases e with
        | normal => exact absurd rfl hne
        | ret => exact he
        | exit i => exact he
theorem runE_le (h : a.le b) {f : FuncId} {args : List V} {x : V × List V} (he : runE a cfg f args = some x) : runE b cfg f args = some x := by
  unfold runE at he ⊢
  split at he
  · cases he
  · split at he
    · cases he
    · split at he
      · rename_i hn
        rw [if_pos hn]
        split at he
        · cases he
        · rename_i r hy
          rw [codeE_le h hy]
          exact he
      · cases he
theorem loopU_le {a b : Call} (h : a.le b) : ∀ {n : Nat} {fn : FuncId} {k : Nat} {s : St} {x : Ext × St},loopU a cfg n fn k s = some x→loopU b cfg n fn k s = some x
  | 0,fn,k,s,x,he => by cases he
  | n + 1,fn,k,s,x,he => by
    simp only [loopU] at he ⊢
    split at he
    · cases he
    · split at he
      · cases he
      · split at he
        · cases he
        · rename_i s1 hy
          rw [codeE_le (a:=⟨a,loopU a cfg n⟩) (b:=⟨b,loopU b cfg n⟩) ⟨h,fun _ _ _ _ e => loopU_le h e⟩ hy]
          exact loopU_le h he
        · rename_i r hne hy
          rw [codeE_le (a:=⟨a,loopU a cfg n⟩) (b:=⟨b,loopU b cfg n⟩) ⟨h,fun _ _ _ _ e => loopU_le h e⟩ hy]
          obtain ⟨e,s1⟩ := r
          cases e with
          | normal => exact absurd rfl (hne s1)
          | ret => exact he
          | exit i => exact he
theorem inlE_le {a b : Call} (h : a.le b) {f : FuncId} {args : List V} {s : St} {id : Nat} {x : V × St} (he : inlE a cfg f args s id = some x) : inlE b cfg f args s id = some x := by
  unfold inlE at he ⊢
  split at he
  · cases he
  · split at he
    · cases he
    · split at he
      · rename_i hn
        rw [if_pos hn]
        split at he
        · cases he
        · rename_i r hy
          rw [codeE_le (a:=⟨a,loopU a cfg 6⟩) (b:=⟨b,loopU b cfg 6⟩) ⟨h,fun _ _ _ _ e => loopU_le h e⟩ hy]
          exact he
      · cases he
theorem pullE_at {c1 : Call} {f : FuncId} {vs : List V} {s : St} {id : Nat} {x : V × St} (he : pullE c1 cfg f vs s id = some x) : ∃ asv r,c1 f asv = some r∧∀ c2 : Call,c2 f asv = some r→pullE c2 cfg f vs s id = some x := by
  unfold pullE at he
  split at he
  · rename_i o i fs ver n r
    cases ht : s.take o i fs ver n with
    | none => rw [ht] at he;cases he
    | some a =>
      rw [ht] at he
      simp only at he
      cases hl : lendV (cfg.md f) (.ref (id + 32) 0 n :: r) (a.2.2.new (id + 32) ⟨false,false,a.1,a.2.1,0⟩) with
      | none => rw [hl] at he;cases he
      | some l =>
        rw [hl] at he
        simp only at he
        split at he
        · rename_i hpres
          cases hc : callV c1 cfg (a.2.2.new (id + 32) ⟨false,false,a.1,a.2.1,0⟩) id f (.ref (id + 32) 0 n :: r) with
          | none => rw [hc] at he;cases he
          | some b =>
            rw [hc] at he
            obtain ⟨asv,k,h1,h2⟩ := callV_at hc
            refine ⟨asv,k,h1,fun c2 h3 => ?_⟩
            simp only [pullE,ht,hl,hpres,if_true,h2 c2 h3]
            exact he
        · cases he
  · rename_i hn
    obtain ⟨b,hc,e⟩ := mp_some_inv he
    obtain ⟨asv,k,h1,h2⟩ := callV_at hc
    refine ⟨asv,k,h1,fun c2 h3 => ?_⟩
    unfold pullE
    split
    · exact absurd rfl (hn _ _ _ _ _ _)
    · rw [h2 c2 h3,← e];rfl
theorem inE_le {a b : Call} (h : a.le b) {f : FuncId} {args : List V} {s : St} {id : Nat} {x : V × St} (he : inE a cfg f args s id = some x) : inE b cfg f args s id = some x := by
  unfold inE at he ⊢
  split at he
  · rename_i hp
    rw [if_pos hp]
    obtain ⟨asv,r,h1,h2⟩ := pullE_at he
    exact h2 b (h.c f asv r h1)
  · rename_i hp
    rw [if_neg hp]
    exact inlE_le h he
theorem callE_le (h : a.le b) {f : FuncId} {args : List V} {x : V × List V} (he : callE a cfg f args = some x) : callE b cfg f args = some x := by
  unfold callE at he ⊢
  split at he
  · rename_i hn
    rw [if_pos hn]
    split at he
    · split at he
      · rename_i hx
        rw [if_pos hx]
        split at he
        · rename_i heq
          rw [runE_le h he,runE_le h (heq ▸ he),if_pos rfl]
        · cases he
      · rename_i hx
        rw [if_neg hx]
        exact runE_le h he
    · cases he
  · rename_i hn
    rw [if_neg hn]
    obtain ⟨y,hy,e⟩ := mp_some_inv he
    rw [runE_le h hy,mp_some,e]
theorem callX_le {ext : Call} (h : a.le b) {f : FuncId} {args : List V} {x : V × List V} (he : callX ext a cfg f args = some x) : callX ext b cfg f args = some x := by
  unfold callX at he ⊢
  split at he
  · exact he
  · exact callE_le h he
end
section
variable {ext : Call} {cfg : Cfg}
theorem orcN_step : ∀ n,(orcN ext cfg n).le (orcN ext cfg (n + 1))
  | 0 => ⟨⟨fun f asv r h => (by cases h),fun f vs s id r h => (by cases h)⟩,fun fn k s r h => (by cases h)⟩
  | n + 1 => ⟨⟨fun f asv r h => callX_le (orcN_step n) h,fun f vs s id r h => inE_le (orcN_step n).call h⟩,fun fn k s r h => loopE_le (orcN_step n) h⟩
theorem orcN_le {n m : Nat} (h : n≤m) : (orcN ext cfg n).le (orcN ext cfg m) := by
  induction h with
  | refl => exact ⟨⟨fun _ _ _ h => h,fun _ _ _ _ _ h => h⟩,fun _ _ _ _ h => h⟩
  | step h ih => exact ⟨⟨fun f asv r e => (orcN_step _).call.c f asv r (ih.call.c f asv r e),fun f vs s id r e => (orcN_step _).call.i f vs s id r (ih.call.i f vs s id r e)⟩,fun fn k s r e => (orcN_step _).loop fn k s r (ih.loop fn k s r e)⟩
theorem lim_call_of {n : Nat} {f : FuncId} {asv : List V} {r : V × List V} (h : (orcN ext cfg n).call f asv = some r) : (lim ext cfg).call f asv = some r := by
  have hx : ∃ n,((orcN ext cfg n).call f asv).isSome = true := ⟨n,by rw [h];rfl⟩
  have e : (lim ext cfg).call f asv = (orcN ext cfg hx.choose).call f asv := dif_pos hx
  rw [e]
  obtain ⟨r',hr'⟩ := Option.isSome_iff_exists.1 hx.choose_spec
  have h1 := (orcN_le (Nat.le_max_left n hx.choose)).call.c f asv r h
  have h2 := (orcN_le (Nat.le_max_right n hx.choose)).call.c f asv r' hr'
  rw [h1] at h2
  cases h2
  exact hr'
theorem lim_call_at {f : FuncId} {asv : List V} {r : V × List V} (h : (lim ext cfg).call f asv = some r) : ∃ n,(orcN ext cfg n).call f asv = some r := by
  by_cases hx : ∃ n,((orcN ext cfg n).call f asv).isSome = true
  · have e : (lim ext cfg).call f asv = (orcN ext cfg hx.choose).call f asv := dif_pos hx
    rw [e] at h
    exact ⟨_,h⟩
  · have e : (lim ext cfg).call f asv = none := dif_neg hx
    rw [e] at h
    cases h
theorem lim_inl_of {n : Nat} {f : FuncId} {vs : List V} {s : St} {id : Nat} {r : V × St} (h : (orcN ext cfg n).call.i f vs s id = some r) : (lim ext cfg).call.i f vs s id = some r := by
  have hx : ∃ n,((orcN ext cfg n).call.i f vs s id).isSome = true := ⟨n,by rw [h];rfl⟩
  have e : (lim ext cfg).call.i f vs s id = (orcN ext cfg hx.choose).call.i f vs s id := dif_pos hx
  rw [e]
  obtain ⟨r',hr'⟩ := Option.isSome_iff_exists.1 hx.choose_spec
  have h1 := (orcN_le (Nat.le_max_left n hx.choose)).call.i f vs s id r h
  have h2 := (orcN_le (Nat.le_max_right n hx.choose)).call.i f vs s id r' hr'
  rw [h1] at h2
  cases h2
  exact hr'
theorem lim_inl_at {f : FuncId} {vs : List V} {s : St} {id : Nat} {r : V × St} (h : (lim ext cfg).call.i f vs s id = some r) : ∃ n,(orcN ext cfg n).call.i f vs s id = some r := by
  by_cases hx : ∃ n,((orcN ext cfg n).call.i f vs s id).isSome = true
  · have e : (lim ext cfg).call.i f vs s id = (orcN ext cfg hx.choose).call.i f vs s id := dif_pos hx
    rw [e] at h
    exact ⟨_,h⟩
  · have e : (lim ext cfg).call.i f vs s id = none := dif_neg hx
    rw [e] at h
    cases h
theorem lim_loop_of {n : Nat} {fn : FuncId} {k : Nat} {s : St} {r : Ext × St} (h : (orcN ext cfg n).loop fn k s = some r) : (lim ext cfg).loop fn k s = some r := by
  have hx : ∃ n,((orcN ext cfg n).loop fn k s).isSome = true := ⟨n,by rw [h];rfl⟩
  have e : (lim ext cfg).loop fn k s = (orcN ext cfg hx.choose).loop fn k s := dif_pos hx
  rw [e]
  obtain ⟨r',hr'⟩ := Option.isSome_iff_exists.1 hx.choose_spec
  have h1 := (orcN_le (Nat.le_max_left n hx.choose)).loop fn k s r h
  have h2 := (orcN_le (Nat.le_max_right n hx.choose)).loop fn k s r' hr'
  rw [h1] at h2
  cases h2
  exact hr'
theorem lim_loop_at {fn : FuncId} {k : Nat} {s : St} {r : Ext × St} (h : (lim ext cfg).loop fn k s = some r) : ∃ n,(orcN ext cfg n).loop fn k s = some r := by
  by_cases hx : ∃ n,((orcN ext cfg n).loop fn k s).isSome = true
  · have e : (lim ext cfg).loop fn k s = (orcN ext cfg hx.choose).loop fn k s := dif_pos hx
    rw [e] at h
    exact ⟨_,h⟩
  · have e : (lim ext cfg).loop fn k s = none := dif_neg hx
    rw [e] at h
    cases h
theorem opE_lim {d : Bool} {id base : Nat} {s : St} {ty : TypeId} {o : Op} {x : V × St} (he : opE ((lim ext cfg).call.pick d) cfg id base s ty o = some x) : ∃ n,∀ m,n≤m→opE ((orcN ext cfg m).call.pick d) cfg id base s ty o = some x := by
  rcases opE_at he with ⟨f,asv,r,h1,h2⟩ | ⟨f,vs,s',id',r,h1,h2⟩ | h2
  · have h1' : (lim ext cfg).call f asv = some r := by cases d <;> exact h1
    obtain ⟨n,hn⟩ := lim_call_at h1'
    exact ⟨n,fun m hm => h2 _ (by have := (orcN_le hm).call.c f asv r hn;cases d <;> exact this)⟩
  · cases d with
    | true => cases h1
    | false =>
      obtain ⟨n,hn⟩ := lim_inl_at h1
      exact ⟨n,fun m hm => h2 _ ((orcN_le hm).call.i f vs s' id' r hn)⟩
  · exact ⟨0,fun m _ => h2 _⟩
theorem opsE_lim {draw : Bool} {all : List Oper} {base : Nat} : ∀ {rest : List Oper} {i : Nat} {s : St} {tr : List (List (Nat × Acc))} {x : St × List (List (Nat × Acc))},opsE (lim ext cfg).call cfg draw all base i rest s tr = some x→∃ n,∀ m,n≤m→opsE (orcN ext cfg m).call cfg draw all base i rest s tr = some x
  | [],i,s,tr,x,he => ⟨0,fun _ _ => he⟩
  | o :: r,i,s,tr,x,he => by
    simp only [opsE] at he ⊢
    split at he
    · cases he
    · rename_i hg
      split at he
      · cases he
      · rename_i y hy
        obtain ⟨n1,h1⟩ := opE_lim hy
        obtain ⟨n2,h2⟩ := opsE_lim he
        refine ⟨max n1 n2,fun m hm => ?_⟩
        try rw [hg]
        try simp only
        rw [h1 m (by omega)]
        exact h2 m (by omega)
    · rename_i hg
      obtain ⟨n2,h2⟩ := opsE_lim he
      refine ⟨n2,fun m hm => ?_⟩
      try rw [hg]
      exact h2 m hm
theorem regionE_lim {ops : List Oper} {draw : Bool} {s : St} {x : St} (he : regionE (lim ext cfg).call cfg ops draw s = some x) : ∃ n,∀ m,n≤m→regionE (orcN ext cfg m).call cfg ops draw s = some x := by
  unfold regionE at he ⊢
  split at he
  · cases he
  · rename_i y hy
    obtain ⟨n,h1⟩ := opsE_lim hy
    exact ⟨n,fun m hm => by rw [h1 m hm];exact he⟩
theorem opA_lim {k id base : Nat} {s : St} {ty : TypeId} {o : Op} {x : V × St} (he : opA (lim ext cfg).call cfg k id base s ty o = some x) : ∃ n,∀ m,n≤m→opA (orcN ext cfg m).call cfg k id base s ty o = some x := by
  rcases opA_at he with ⟨f,asv,r,h1,h2⟩ | ⟨f,vs,s',id',r,h1,h2⟩ | h2
  · obtain ⟨n,hn⟩ := lim_call_at h1
    exact ⟨n,fun m hm => h2 _ ((orcN_le hm).call.c f asv r hn)⟩
  · obtain ⟨n,hn⟩ := lim_inl_at h1
    exact ⟨n,fun m hm => h2 _ ((orcN_le hm).call.i f vs s' id' r hn)⟩
  · exact ⟨0,fun m _ => h2 _⟩
theorem opsA_lim {k : Nat} {all : List Oper} {base : Nat} : ∀ {rest : List Oper} {s : St} {x : St},opsA (lim ext cfg).call cfg k all base rest s = some x→∃ n,∀ m,n≤m→opsA (orcN ext cfg m).call cfg k all base rest s = some x
  | [],s,x,he => ⟨0,fun _ _ => he⟩
  | o :: r,s,x,he => by
    simp only [opsA] at he ⊢
    split at he
    · cases he
    · rename_i hg
      split at he
      · cases he
      · rename_i y hy
        obtain ⟨n1,h1⟩ := opA_lim hy
        obtain ⟨n2,h2⟩ := opsA_lim he
        refine ⟨max n1 n2,fun m hm => ?_⟩
        try rw [hg]
        try simp only
        rw [h1 m (by omega)]
        exact h2 m (by omega)
    · rename_i hg
      obtain ⟨n2,h2⟩ := opsA_lim he
      refine ⟨n2,fun m hm => ?_⟩
      try rw [hg]
      exact h2 m hm
theorem regionX_lim {k : Nat} {ops : List Oper} {draw : Bool} {s : St} {x : St} (he : regionX (lim ext cfg).call cfg k ops draw s = some x) : ∃ n,∀ m,n≤m→regionX (orcN ext cfg m).call cfg k ops draw s = some x := by
  unfold regionX at he ⊢
  split at he
  · rename_i hk
    obtain ⟨n,h1⟩ := regionE_lim he
    exact ⟨n,fun m hm => by rw [if_pos hk];exact h1 m hm⟩
  · rename_i hk
    split at he
    · cases he
    · rename_i hd
      obtain ⟨n,h1⟩ := opsA_lim he
      exact ⟨n,fun m hm => by rw [if_neg hk,if_neg hd];exact h1 m hm⟩
theorem codeE_limL {ll : FuncId→Nat→St→Option (Ext × St)} {L : Nat→FuncId→Nat→St→Option (Ext × St)} (hl : ∀ fn k s r,ll fn k s = some r→∃ n,∀ m,n≤m→L m fn k s = some r) {fn : FuncId} : ∀ {c : Code} {s : St} {x : Ext × St},codeE ⟨(lim ext cfg).call,ll⟩ cfg fn c s = some x→∃ n,∀ m,n≤m→codeE ⟨(orcN ext cfg m).call,L m⟩ cfg fn c s = some x
  | .region id ops draw,s,x,he => by
    simp only [codeE] at he ⊢
    split at he
    · cases he
    · rename_i y hy
      obtain ⟨n,h1⟩ := regionX_lim hy
      exact ⟨n,fun m hm => by rw [h1 m hm];exact he⟩
  | .seq p q,s,x,he => by
    simp only [codeE] at he ⊢
    split at he
    · cases he
    · rename_i y hy
      obtain ⟨n1,h1⟩ := codeE_limL hl hy
      obtain ⟨n2,h2⟩ := codeE_limL hl he
      exact ⟨max n1 n2,fun m hm => by rw [h1 m (by omega)];exact h2 m (by omega)⟩
    · rename_i y hne hy
      obtain ⟨n,h1⟩ := codeE_limL hl hy
      refine ⟨n,fun m hm => ?_⟩
      rw [h1 m hm]
      obtain ⟨e,s1⟩ := y
      cases e with
      | normal => exact absurd rfl (hne s1)
      | ret => exact he
      | exit i => exact he
  | .cond c p q,s,x,he => by
    simp only [codeE] at he ⊢
    split at he
    · rename_i hc
      obtain ⟨n,h1⟩ := codeE_limL hl he
      exact ⟨n,fun m hm => by
        try rw [hc]
        exact h1 m hm⟩
    · rename_i hc
      obtain ⟨n,h1⟩ := codeE_limL hl he
      exact ⟨n,fun m hm => by
        try rw [hc]
        exact h1 m hm⟩
    · cases he
  | .block id p,s,x,he => by
    simp only [codeE] at he ⊢
    split at he
    · cases he
    · rename_i i s1 hy
      obtain ⟨n,h1⟩ := codeE_limL hl hy
      exact ⟨n,fun m hm => by rw [h1 m hm];exact he⟩
    · rename_i y hne hy
      obtain ⟨n,h1⟩ := codeE_limL hl hy
      refine ⟨n,fun m hm => ?_⟩
      rw [h1 m hm]
      obtain ⟨e,s1⟩ := y
      cases e with
      | normal => exact he
      | ret => exact he
      | exit i => exact absurd rfl (hne i s1)
  | .loop p,s,x,he => by
    simp only [codeE] at he ⊢
    exact hl _ _ _ _ he
  | .skip,s,x,he => ⟨0,fun _ _ => he⟩
  | .exit _,s,x,he => ⟨0,fun _ _ => he⟩
  | .ret,s,x,he => ⟨0,fun _ _ => he⟩
  | .scope _,s,x,he => ⟨0,fun _ _ => he⟩
  | .rangeFunc ..,s,x,he => ⟨0,fun _ _ => he⟩
  | .label _,s,x,he => ⟨0,fun _ _ => he⟩
  | .goto _,s,x,he => ⟨0,fun _ _ => he⟩
  | .refuse _,s,x,he => ⟨0,fun _ _ => he⟩
theorem codeE_lim {fn : FuncId} {c : Code} {s : St} {x : Ext × St} (he : codeE (lim ext cfg) cfg fn c s = some x) : ∃ n,∀ m,n≤m→codeE (orcN ext cfg m) cfg fn c s = some x :=
  codeE_limL (ll:=(lim ext cfg).loop) (L:=fun m => (orcN ext cfg m).loop) (fun _ _ _ _ h => by
    obtain ⟨n,h1⟩ := lim_loop_at h
    exact ⟨n,fun m hm => (orcN_le hm).loop _ _ _ _ h1⟩) he
theorem loopU_lim : ∀ {d : Nat} {fn : FuncId} {k : Nat} {s : St} {x : Ext × St},loopU (lim ext cfg).call cfg d fn k s = some x→∃ n,∀ m,n≤m→loopU (orcN ext cfg m).call cfg d fn k s = some x
  | 0,fn,k,s,x,he => by cases he
  | d + 1,fn,k,s,x,he => by
    simp only [loopU] at he ⊢
    split at he
    · cases he
    · rename_i f hf
      split at he
      · cases he
      · rename_i body hb
        split at he
        · cases he
        · rename_i s1 hy
          obtain ⟨n1,h1⟩ := codeE_limL (ll:=loopU (lim ext cfg).call cfg d) (L:=fun m => loopU (orcN ext cfg m).call cfg d) (fun _ _ _ _ h => loopU_lim h) hy
          obtain ⟨n2,h2⟩ := loopU_lim he
          exact ⟨max n1 n2,fun m hm => by
            rw [h1 m (by omega)]
            exact h2 m (by omega)⟩
        · rename_i r hne hy
          obtain ⟨n1,h1⟩ := codeE_limL (ll:=loopU (lim ext cfg).call cfg d) (L:=fun m => loopU (orcN ext cfg m).call cfg d) (fun _ _ _ _ h => loopU_lim h) hy
          refine ⟨n1,fun m hm => ?_⟩
          rw [h1 m hm]
          obtain ⟨e,s1⟩ := r
          cases e with
          | normal => exact absurd rfl (hne s1)
          | ret => exact he
          | exit i => exact he
theorem lim_inl {f : FuncId} (hp : cfg.plB f = false) {args : List V} {s : St} {id : Nat} {x : V × St} (he : inlE (lim ext cfg).call cfg f args s id = some x) : (lim ext cfg).call.i f args s id = some x := by
  have : ∃ n,inlE (orcN ext cfg n).call cfg f args s id = some x := by
    unfold inlE at he ⊢
    split at he
    · cases he
    · split at he
      · cases he
      · split at he
        · rename_i hn
          split at he
          · cases he
          · rename_i r hy
            obtain ⟨n,h1⟩ := codeE_limL (ll:=loopU (lim ext cfg).call cfg 6) (L:=fun m => loopU (orcN ext cfg m).call cfg 6) (fun _ _ _ _ h => loopU_lim h) hy
            refine ⟨n,?_⟩
            rw [if_pos hn,h1 n (Nat.le_refl _)]
            exact he
        · cases he
  obtain ⟨n,hn⟩ := this
  exact lim_inl_of (n:=n + 1) (show inE _ cfg f args s id = _ by unfold inE;rw [if_neg (by rw [hp];simp)];exact hn)
theorem lim_loop {fn : FuncId} {k : Nat} {s : St} {x : Ext × St} (he : loopE (lim ext cfg) cfg fn k s = some x) : (lim ext cfg).loop fn k s = some x := by
  have : ∃ n,loopE (orcN ext cfg n) cfg fn k s = some x := by
    unfold loopE at he ⊢
    split at he
    · cases he
    · split at he
      · cases he
      · split at he
        · cases he
        · rename_i s1 hy
          obtain ⟨n1,h1⟩ := codeE_lim hy
          obtain ⟨n2,h2⟩ := lim_loop_at he
          refine ⟨max n1 n2,?_⟩
          rw [h1 _ (by omega)]
          exact (orcN_le (by omega)).loop _ _ _ _ h2
        · rename_i e s1 hne hy
          obtain ⟨n1,h1⟩ := codeE_lim hy
          refine ⟨n1,?_⟩
          rw [h1 _ (Nat.le_refl _)]
          cases e with
          | normal => exact absurd rfl hne
          | ret => exact he
          | exit i => exact he
  obtain ⟨n,hn⟩ := this
  exact lim_loop_of (n:=n + 1) hn
theorem runE_lim {f : FuncId} {args : List V} {x : V × List V} (he : runE (lim ext cfg) cfg f args = some x) : ∃ n,∀ m,n≤m→runE (orcN ext cfg m) cfg f args = some x := by
  unfold runE at he ⊢
  split at he
  · cases he
  · split at he
    · cases he
    · split at he
      · rename_i hn
        split at he
        · cases he
        · rename_i r hy
          obtain ⟨n,h1⟩ := codeE_lim hy
          refine ⟨n,fun m hm => ?_⟩
          rw [if_pos hn,h1 m hm]
          exact he
      · cases he
theorem lim_call {f : FuncId} {args : List V} {x : V × List V} (he : callX ext (lim ext cfg) cfg f args = some x) : (lim ext cfg).call f args = some x := by
  have : ∃ n,callX ext (orcN ext cfg n) cfg f args = some x := by
    unfold callX at he ⊢
    split at he
    · exact ⟨0,he⟩
    · unfold callE at he ⊢
      split at he
      · rename_i hn
        split at he
        · split at he
          · rename_i hx
            split at he
            · rename_i heq
              obtain ⟨n1,h1⟩ := runE_lim he
              obtain ⟨n2,h2⟩ := runE_lim (heq ▸ he)
              refine ⟨max n1 n2,?_⟩
              rw [if_pos hn]
              try simp only
              rw [if_pos hx,h1 _ (by omega),h2 _ (by omega),if_pos rfl]
            · cases he
          · rename_i hx
            obtain ⟨n1,h1⟩ := runE_lim he
            refine ⟨n1,?_⟩
            rw [if_pos hn]
            try simp only
            rw [if_neg hx]
            exact h1 _ (Nat.le_refl _)
        · cases he
      · rename_i hn
        obtain ⟨y,hy,e⟩ := mp_some_inv he
        obtain ⟨n1,h1⟩ := runE_lim hy
        refine ⟨n1,?_⟩
        rw [if_neg hn]
        try simp only
        rw [h1 _ (Nat.le_refl _),mp_some,e]
  obtain ⟨n,hn⟩ := this
  exact lim_call_of (n:=n + 1) hn
variable {P : Program}
mutual
theorem half_mention : ∀ (x : V),x.half.mention = x.mention
  | .agg xs => by simp only [V.half,V.mention];exact halfL_mention xs
  | .tup xs => by simp only [V.half,V.mention];exact shareL_mention xs
  | .int .. => rfl
  | .bool _ => rfl
  | .str _ => rfl
  | .lst .. => rfl
  | .emp _ => rfl
  | .ref .. => rfl
  | .plc .. => rfl
  | .ptr .. => rfl
  | .vptr _ => rfl
  | .clo .. => rfl
  | .iol .. => rfl
  | .iop _ => rfl
  | .und => rfl
theorem halfL_mention : ∀ (xs : List V),V.mentionL (V.halfL xs) = V.mentionL xs
  | [] => rfl
  | x :: r => by simp only [V.halfL,V.mentionL,half_mention x,halfL_mention r]
end
section
variable {h : Hs} {sh : Nat→Prop} {w : World}
mutual
theorem half_rel : ∀ {x : V} {cs : List Value} {f : List Nat},Rel h sh w x cs f→f.Nodup→∃ f',f'.Sublist f∧∀ sh' : Nat→Prop,(∀ b,sh b→sh' b)→(∀ b∈f,b ∉ f'→sh' b)→Rel h sh' w x.half cs f'
  | .lst own sz xs,cs,f,r,hn => by
    cases own
    · have r0 := r
      simp only [Rel,Bool.false_eq_true,if_false] at r0
      obtain ⟨rfl,_⟩ := r0
      refine ⟨[],List.Sublist.refl _,fun sh' hs _ => ?_⟩
      simp only [V.half,Rel,Bool.false_eq_true,if_false] at r ⊢
      obtain ⟨e0,a,c,e,hc,r⟩ := r
      refine ⟨trivial,a,c,by rw [e,shareL_map,List.length_map],by rw [shareL_map,List.length_map];exact hc,?_⟩
      rcases r with ⟨r,r0⟩ | ⟨b,off,z,ds,ea,hb,hat,hr⟩
      · subst r;exact .inl ⟨rfl,r0⟩
      · exact .inr ⟨b,off,z,ds,ea,hs b hb,hat,shareL_rel hs hr (fun b hb => by cases hb)⟩
    · simp only [Rel,if_true] at r
      rcases r with ⟨rfl,rfl,e⟩ | ⟨b,off,c,ds,fps,e,rfl,hc,hrow,hat,hr⟩
      · refine ⟨[],List.Sublist.refl _,fun sh' hs _ => ?_⟩
        simp only [V.half,V.shareL,Rel,if_true]
        exact .inl ⟨trivial,trivial,e⟩
      · refine ⟨[b],(List.nil_sublist fps).cons_cons b,fun sh' hs hf => ?_⟩
        have hn1 := List.nodup_cons.1 hn
        simp only [V.half,Rel,if_true]
        refine .inr ⟨b,off,c,ds,[],by rw [e,shareL_map,List.length_map],rfl,by rw [shareL_map,List.length_map];exact hc,hrow,hat,shareL_rel hs hr (fun b' hb' => hf b' (List.mem_cons_of_mem _ hb') (fun h1 => ?_))⟩
        simp only [List.mem_cons,List.not_mem_nil,or_false] at h1
        exact hn1.1 (h1 ▸ hb')
  | .agg xs,cs,f,r,hn => by
    simp only [Rel] at r
    obtain ⟨f',hs',hr⟩ := halfA_rel r hn
    exact ⟨f',hs',fun sh' hs hf => by simp only [V.half,Rel];exact hr sh' hs hf⟩
  | .int ..,cs,f,r,_ => ⟨f,List.Sublist.refl _,fun sh' hs _ => Rel.wide hs r⟩
  | .bool _,cs,f,r,_ => ⟨f,List.Sublist.refl _,fun sh' hs _ => Rel.wide hs r⟩
  | .str _,cs,f,r,_ => ⟨f,List.Sublist.refl _,fun sh' hs _ => Rel.wide hs r⟩
  | .emp _,cs,f,r,_ => ⟨f,List.Sublist.refl _,fun sh' hs _ => Rel.wide hs r⟩
  | .ref ..,cs,f,r,_ => ⟨f,List.Sublist.refl _,fun sh' hs _ => Rel.wide hs r⟩
  | .plc ..,cs,f,r,_ => ⟨f,List.Sublist.refl _,fun sh' hs _ => Rel.wide hs r⟩
  | .ptr ..,cs,f,r,_ => ⟨f,List.Sublist.refl _,fun sh' hs _ => Rel.wide hs r⟩
  | .vptr _,cs,f,r,_ => ⟨f,List.Sublist.refl _,fun sh' hs _ => Rel.wide hs r⟩
  | .clo ..,cs,f,r,_ => ⟨f,List.Sublist.refl _,fun sh' hs _ => Rel.wide hs r⟩
  | .und,cs,f,r,_ => ⟨f,List.Sublist.refl _,fun sh' hs _ => Rel.wide hs r⟩
  | .tup _,cs,f,r,_ => by simp only [Rel] at r
  | .iol ..,cs,f,r,_ => by simp only [Rel] at r
  | .iop _,cs,f,r,_ => by simp only [Rel] at r
theorem halfA_rel : ∀ {xs : List V} {cs : List Value} {f : List Nat},RelA h sh w xs cs f→f.Nodup→∃ f',f'.Sublist f∧∀ sh' : Nat→Prop,(∀ b,sh b→sh' b)→(∀ b∈f,b ∉ f'→sh' b)→RelA h sh' w (V.halfL xs) cs f'
  | [],cs,f,r,_ => by
    simp only [RelA] at r
    obtain ⟨rfl,rfl⟩ := r
    exact ⟨[],List.Sublist.refl _,fun sh' hs _ => by simp [V.halfL,RelA]⟩
  | x :: q,cs,f,r,hn => by
    simp only [RelA] at r
    obtain ⟨c1,c2,f1,f2,rfl,rfl,r1,r2⟩ := r
    have hn1 := List.nodup_append.1 hn
    obtain ⟨g1,s1,k1⟩ := half_rel r1 hn1.1
    obtain ⟨g2,s2,k2⟩ := halfA_rel r2 hn1.2.1
    refine ⟨g1 ++ g2,s1.append s2,fun sh' hs hf => ?_⟩
    simp only [V.halfL,RelA]
    refine ⟨c1,c2,g1,g2,rfl,rfl,k1 sh' hs (fun b hb hb2 => hf b (List.mem_append_left _ hb) (fun hm => ?_)),k2 sh' hs (fun b hb hb2 => hf b (List.mem_append_right _ hb) (fun hm => ?_))⟩
    · rcases List.mem_append.1 hm with hm | hm
      · exact hb2 hm
      · exact hn1.2.2 b hb b (s2.subset hm) rfl
    · rcases List.mem_append.1 hm with hm | hm
      · exact hn1.2.2 b (s1.subset hm) b hb rfl
      · exact hb2 hm
end
theorem half_retS {v : V} {x : Value} {f : List Nat} (r : RetS h sh w v x f) (hn : f.Nodup) : ∃ f',f'.Sublist f∧∀ sh' : Nat→Prop,(∀ b,sh b→sh' b)→(∀ b∈f,b ∉ f'→sh' b)→RetS h sh' w v.half x f' := by
  obtain ⟨hm,r⟩ := r
  cases v with
  | agg xs =>
    obtain ⟨cs,e,r⟩ := r
    obtain ⟨f',s1,k⟩ := halfA_rel r hn
    exact ⟨f',s1,fun sh' hs hf => ⟨by rw [half_mention];exact hm,cs,e,k sh' hs hf⟩⟩
  | tup xs => simp only [Rel] at r
  | lst own sz xs =>
    obtain ⟨f',s1,k⟩ := half_rel (x:=.lst own sz xs) r hn
    exact ⟨f',s1,fun sh' hs hf => ⟨by rw [half_mention];exact hm,k sh' hs hf⟩⟩
  | _ => exact ⟨f,List.Sublist.refl _,fun sh' hs hf => ⟨hm,Rel.wide hs r⟩⟩
theorem share_retS {sh' : Nat→Prop} (hs : ∀ b,sh b→sh' b) {v : V} {x : Value} {f : List Nat} (r : RetS h sh w v x f) (hf : ∀ b∈f,sh' b) : RetS h sh' w v.share x [] := by
  obtain ⟨hm,r⟩ := r
  cases v with
  | agg xs =>
    obtain ⟨cs,e,r⟩ := r
    exact ⟨by rw [share_mention];exact hm,cs,e,shareA_rel hs r hf⟩
  | tup xs => simp only [Rel] at r
  | lst own sz xs => exact ⟨by rw [share_mention];exact hm,share_rel hs (x:=.lst own sz xs) r hf⟩
  | int k n => exact ⟨hm,share_rel hs (x:=.int k n) r hf⟩
  | bool b => exact ⟨hm,share_rel hs (x:=.bool b) r hf⟩
  | str b => exact ⟨hm,share_rel hs (x:=.str b) r hf⟩
  | emp b => exact ⟨hm,share_rel hs (x:=.emp b) r hf⟩
  | ref a b c => exact ⟨hm,share_rel hs (x:=.ref a b c) r hf⟩
  | plc a b c d e => exact ⟨hm,share_rel hs (x:=.plc a b c d e) r hf⟩
  | ptr a b c => exact ⟨hm,share_rel hs (x:=.ptr a b c) r hf⟩
  | vptr y => exact ⟨hm,share_rel hs (x:=.vptr y) r hf⟩
  | clo g cs => exact ⟨hm,share_rel hs (x:=.clo g cs) r hf⟩
  | und => exact ⟨hm,share_rel hs (x:=.und) r hf⟩
  | iol a b => simp only [Rel] at r
  | iop a => simp only [Rel] at r
theorem share_retL {sh' : Nat→Prop} (hs : ∀ b,sh b→sh' b) : ∀ {vs : List V} {xs : List Value} {f : List Nat},RetL h sh w vs xs f→(∀ b∈f,sh' b)→RetL h sh' w (V.shareL vs) xs []
  | [],xs,f,r,_ => by
    simp only [RetL] at r
    obtain ⟨rfl,rfl⟩ := r
    simp [V.shareL,RetL]
  | v :: q,xs,f,r,hf => by
    simp only [RetL] at r
    obtain ⟨x,p,f1,f2,rfl,rfl,r1,r2⟩ := r
    simp only [V.shareL,RetL]
    exact ⟨x,p,[],[],rfl,rfl,share_retS hs r1 (fun b hb => hf b (List.mem_append_left _ hb)),share_retL hs r2 (fun b hb => hf b (List.mem_append_right _ hb))⟩
theorem half_retR {v : V} {x : Value} {f : List Nat} (r : RetR h sh w v x f) (hn : f.Nodup) : ∃ f',f'.Sublist f∧∀ sh' : Nat→Prop,(∀ b,sh b→sh' b)→(∀ b∈f,b ∉ f'→sh' b)→RetR h sh' w v.half x f' := by
  cases v with
  | tup vs =>
    obtain ⟨xs,e,r⟩ := r
    exact ⟨[],List.nil_sublist _,fun sh' hs hf => ⟨xs,e,share_retL hs r (fun b hb => hf b hb (fun h => by cases h))⟩⟩
  | agg xs => exact half_retS (v:=.agg xs) r hn
  | lst own sz xs => exact half_retS (v:=.lst own sz xs) r hn
  | _ => exact ⟨f,List.Sublist.refl _,fun sh' hs hf => ⟨r.1,Rel.wide hs r.2⟩⟩
theorem full_retR {v : V} {x : Value} {f : List Nat} (r : RetR h sh w v x f) (hn : f.Nodup) : ∃ f',f'.Sublist f∧∀ sh' : Nat→Prop,(∀ b,sh b→sh' b)→(∀ b∈f,b ∉ f'→sh' b)→RetR h sh' w v.full x f' := by
  cases v with
  | lst own sz xs => exact ⟨[],List.nil_sublist _,fun sh' hs hf => share_retS (v:=.lst own sz xs) hs r (fun b hb => hf b hb (fun h => by cases h))⟩
  | tup vs => exact half_retR (v:=.tup vs) r hn
  | agg xs => exact half_retR (v:=.agg xs) r hn
  | _ => exact ⟨f,List.Sublist.refl _,fun sh' hs hf => ⟨r.1,Rel.wide hs r.2⟩⟩
theorem OutsR.wide {sh' : Nat→Prop} (hs : ∀ b,sh b→sh' b) : ∀ {vs : List V} {xs : List Value} {outs : List V} {f : List Nat},OutsR h sh w vs xs outs f→OutsR h sh' w vs xs outs f
  | [],xs,outs,f,r => r
  | v :: q,xs,outs,f,r => by
    unfold OutsR at r ⊢
    split at r
    · obtain ⟨x,p,ys,o,f1,f2,e1,e2,e3,hm,hx,r⟩ := r
      refine ⟨x,p,ys,o,f1,f2,e1,e2,e3,hm,?_,OutsR.wide hs r⟩
      rcases hx with hx | ⟨b,off,n,c,ds,fps,a1,a2,a3,a4,a5,a6⟩
      · exact .inl hx
      · exact .inr ⟨b,off,n,c,ds,fps,a1,a2,a3,a4,a5,RelX.keep (Goes.none (fun b hb => ⟨hs b hb,rfl⟩)) a6 (by rw [hm];intro q hq;cases hq) (fun _ _ => rfl)⟩
    · obtain ⟨x,p,y,o,f1,f2,e1,e2,e3,hm,⟨b,off,ds,fps,a1,a2,a3,a4,a5⟩,r⟩ := r
      exact ⟨x,p,y,o,f1,f2,e1,e2,e3,hm,⟨b,off,ds,fps,a1,a2,a3,a4,Rel.wide hs a5⟩,OutsR.wide hs r⟩
    · obtain ⟨x,p,e1,r⟩ := r
      exact ⟨x,p,e1,OutsR.wide hs r⟩
theorem Left.half {fps : List Nat} {args : List V} {reals : List Value} {v : V} {outs : List V} {x : Value} {w' : World} {h' : Hs} {sh' : Nat→Prop} {fr fo : List Nat} (L : Left h sh w fps args reals v outs x w' h' sh' fr fo) :
    ∃ sh2 fr2,Left h sh w fps args reals v.half outs x w' h' sh2 fr2 fo := by
  have hn := List.nodup_append.1 L.nd
  obtain ⟨fr2,s1,k⟩ := half_retR L.ret hn.1
  refine ⟨fun b => sh' b∨b∈fr∧b ∉ fr2,fr2,?_⟩
  have hw : ∀ b,sh' b→sh' b∨b∈fr∧b ∉ fr2 := fun b hb => .inl hb
  refine ⟨k _ hw (fun b hb hb2 => .inr ⟨hb,hb2⟩),OutsR.wide hw L.out,List.nodup_append.2 ⟨s1.nodup hn.1,hn.2.1,fun a ha b hb => hn.2.2 a (s1.subset ha) b hb⟩,?_,L.size,L.old,fun b hb => .inl (L.shs b hb),?_⟩
  · intro b hb
    have hb' : b∈fr ++ fo := by
      rcases List.mem_append.1 hb with hb | hb
      · exact List.mem_append_left _ (s1.subset hb)
      · exact List.mem_append_right _ hb
    obtain ⟨o1,o2,o3⟩ := L.own b hb'
    refine ⟨o1,o2,fun hs => ?_⟩
    rcases hs with hs | ⟨hs1,hs2⟩
    · exact o3 hs
    · rcases List.mem_append.1 hb with hb | hb
      · exact hs2 hb
      · exact hn.2.2 b hs1 b hb rfl
  · intro b hb
    rcases hb with hb | ⟨hb,_⟩
    · exact L.shn b hb
    · obtain ⟨o1,o2,_⟩ := L.own b (List.mem_append_left _ hb)
      exact ⟨o1,.inr o2⟩
theorem Left.full {fps : List Nat} {args : List V} {reals : List Value} {v : V} {outs : List V} {x : Value} {w' : World} {h' : Hs} {sh' : Nat→Prop} {fr fo : List Nat} (L : Left h sh w fps args reals v outs x w' h' sh' fr fo) :
    ∃ sh2 fr2,Left h sh w fps args reals v.full outs x w' h' sh2 fr2 fo := by
  have hn := List.nodup_append.1 L.nd
  obtain ⟨fr2,s1,k⟩ := full_retR L.ret hn.1
  refine ⟨fun b => sh' b∨b∈fr∧b ∉ fr2,fr2,?_⟩
  have hw : ∀ b,sh' b→sh' b∨b∈fr∧b ∉ fr2 := fun b hb => .inl hb
  refine ⟨k _ hw (fun b hb hb2 => .inr ⟨hb,hb2⟩),OutsR.wide hw L.out,List.nodup_append.2 ⟨s1.nodup hn.1,hn.2.1,fun a ha b hb => hn.2.2 a (s1.subset ha) b hb⟩,?_,L.size,L.old,fun b hb => .inl (L.shs b hb),?_⟩
  · intro b hb
    have hb' : b∈fr ++ fo := by
      rcases List.mem_append.1 hb with hb | hb
      · exact List.mem_append_left _ (s1.subset hb)
      · exact List.mem_append_right _ hb
    obtain ⟨o1,o2,o3⟩ := L.own b hb'
    refine ⟨o1,o2,fun hs => ?_⟩
    rcases hs with hs | ⟨hs1,hs2⟩
    · exact o3 hs
    · rcases List.mem_append.1 hb with hb | hb
      · exact hs2 hb
      · exact hn.2.2 b hs1 b hb rfl
  · intro b hb
    rcases hb with hb | ⟨hb,_⟩
    · exact L.shn b hb
    · obtain ⟨o1,o2,_⟩ := L.own b (List.mem_append_left _ hb)
      exact ⟨o1,.inr o2⟩
end
theorem call_sound {orc : Orc} (C : CfgOK P cfg) (B : CodeOKs cfg) (O : OrcOK P cfg orc) (D : DrawOK P cfg orc.call) : CallOK P ⟨callE orc cfg,fun _ _ _ _ => none⟩ := by
  intro f args v outs he0
  have he : callE orc cfg f args = some (v,outs) := he0
  unfold callE at he
  split at he
  · split at he
    · rename_i sz xs
      split at he
      · rename_i hx
        split at he
        · rename_i heq
          have hx' : xs = [] := by simpa using hx
          subst hx'
          obtain ⟨h1,h2⟩ := fun_sound C B O D he
          obtain ⟨_,h3⟩ := fun_sound C B O D (heq ▸ he)
          refine ⟨h1,fun h sh w reals fps hA hnd hok hsh => ?_⟩
          simp only [ArgsR] at hA
          obtain ⟨x,q,f1,f2,rfl,rfl,r1,rfl,rfl⟩ := hA
          obtain ⟨rfl,hm,_,_,r1⟩ := r1
          simp only [RelS,RelS0,Rel,Bool.false_eq_true,if_false,List.cons.injEq,and_true,true_and] at r1
          obtain ⟨ad,c,rfl,_,hcc⟩ := r1
          have hc0 : ad = none→c = 0 := by
            rcases hcc with hcc | ⟨_,_,_,_,e,_⟩
            · exact hcc
            · rw [e];intro e;cases e
          have conv : ∀ b : Bool,∀ e w',Post h sh w ([] ++ []) [.emp b] [.slice ad 0 c] v outs e w'→Post h sh w ([] ++ []) [.lst false sz []] [.slice ad 0 c] v outs e w' := by
            rintro b e w' ⟨x,e1,h',sh',fr,fo,L⟩
            exact ⟨x,e1,h',sh',fr,fo,⟨L.ret,L.out,L.nd,L.own,L.size,L.old,L.shs,L.shn⟩⟩
          have arg : ∀ b : Bool,ad.isNone = b→ArgsR h sh w [.emp b] [.slice ad 0 c] ([] ++ []) := by
            intro b hb
            exact ⟨.slice ad 0 c,[],[],[],rfl,rfl,⟨rfl,rfl,by simp,rfl,by simp only [RelS,RelS0,Rel];exact ⟨trivial,ad,c,rfl,hb,hc0⟩⟩,rfl,rfl⟩
          cases hb : ad.isNone with
          | true => exact (h2 h sh w _ _ (arg true hb) hnd hok hsh).mono (conv true)
          | false => exact (h3 h sh w _ _ (arg false hb) hnd hok hsh).mono (conv false)
        · cases he
      · exact fun_sound C B O D he
    · cases he
  · obtain ⟨y,hy,e⟩ := mp_some_inv he
    have hs : runE orc cfg f args = some (y.1,y.2) := hy
    obtain ⟨h1,h2⟩ := fun_sound C B O D hs
    simp only [Prod.mk.injEq] at e
    obtain ⟨e1,rfl⟩ := e
    split at e1
    · split at e1
      · subst e1
        refine ⟨h1,fun h sh w reals fps hA hnd hok hsh => (h2 h sh w reals fps hA hnd hok hsh).mono ?_⟩
        rintro en w' ⟨x,e0,h',sh',fr,fo,L⟩
        obtain ⟨sh2,fr2,L2⟩ := L.full
        exact ⟨x,e0,h',sh2,fr2,fo,L2⟩
      · subst e1
        refine ⟨h1,fun h sh w reals fps hA hnd hok hsh => (h2 h sh w reals fps hA hnd hok hsh).mono ?_⟩
        rintro en w' ⟨x,e0,h',sh',fr,fo,L⟩
        obtain ⟨sh2,fr2,L2⟩ := L.half
        exact ⟨x,e0,h',sh2,fr2,fo,L2⟩
    · subst e1
      exact ⟨h1,h2⟩
theorem orcN_sound (C : CfgOK P cfg) (B : CodeOKs cfg) (E : CallOK P ext) (D : ∀ call,CallOK P call→DrawOK P cfg call) : ∀ n,OrcOK P cfg (orcN ext cfg n)
  | 0 => ⟨fun f args v outs he => (by cases he),fun f vs s id v s' he => (by cases he),fun fn k s r he => (by cases he)⟩
  | n + 1 => by
    have ih := orcN_sound C B E D n
    have hd := D _ ih.call
    refine ⟨fun f args v outs he => ?_,fun f vs s id v s' he => (by
      have he' : inE (orcN ext cfg n).call cfg f vs s id = some (v,s') := he
      unfold inE at he'
      split at he'
      · exact pull_sound ih.call f vs s id v s' he'
      · exact inl_sound C B ih.call ih.inl hd f vs s id v s' he'),fun fn k s r he func full body hf hb hk F a w hF hn hnp I => loop_sound C B ih hd he hf hb hk hF hn hnp I⟩
    have he' : callX ext (orcN ext cfg n) cfg f args = some (v,outs) := he
    unfold callX at he'
    split at he'
    · rename_i r hr
      exact E f args v outs (hr.trans he')
    · exact call_sound C B ih hd f args v outs he'
theorem lim_sound (C : CfgOK P cfg) (B : CodeOKs cfg) (E : CallOK P ext) (D : ∀ call,CallOK P call→DrawOK P cfg call) : CallOK P (lim ext cfg).call := by
  intro f args v outs he
  obtain ⟨n,hn⟩ := lim_call_at he
  exact (orcN_sound C B E D n).call f args v outs hn
end
mutual
theorem alike_symm : ∀ {x y : V},x.alike y = true→y.alike x = true
  | .agg xs,y,h => by
    simp only [V.alike] at h
    cases y with
    | agg ys => simp only [V.aggOf] at h;simp only [V.alike,V.aggOf];exact alikeL_symm h
    | _ => simp [V.aggOf] at h
  | .int ..,y,h => by cases y <;> simp_all [V.alike,V.aggOf]
  | .bool _,y,h => by cases y <;> simp_all [V.alike,V.aggOf]
  | .str _,y,h => by cases y <;> simp_all [V.alike,V.aggOf]
  | .lst ..,y,h => by cases y <;> simp_all [V.alike,V.aggOf]
  | .emp _,y,h => by cases y <;> simp_all [V.alike,V.aggOf]
  | .tup _,y,h => by cases y <;> simp_all [V.alike,V.aggOf]
  | .ref ..,y,h => by cases y <;> simp_all [V.alike,V.aggOf]
  | .plc ..,y,h => by cases y <;> simp_all [V.alike,V.aggOf]
  | .ptr ..,y,h => by cases y <;> simp_all [V.alike,V.aggOf]
  | .vptr _,y,h => by cases y <;> simp_all [V.alike,V.aggOf]
  | .clo ..,y,h => by cases y <;> simp_all [V.alike,V.aggOf]
  | .iol ..,y,h => by cases y <;> simp_all [V.alike,V.aggOf]
  | .iop _,y,h => by cases y <;> simp_all [V.alike,V.aggOf]
  | .und,y,h => by cases y <;> simp_all [V.alike,V.aggOf]
theorem alikeL_symm : ∀ {xs ys : List V},V.alikeL xs ys = true→V.alikeL ys xs = true
  | [],ys,h => by simp only [V.alikeL,List.isEmpty_iff] at h;subst h;rfl
  | x :: r,[],h => by simp [V.alikeL] at h
  | x :: r,y :: q,h => by
    simp only [V.alikeL,Bool.and_eq_true] at h ⊢
    exact ⟨alike_symm h.1,alikeL_symm h.2⟩
end
mutual
theorem alike_trans : ∀ {x y z : V},x.alike y = true→y.alike z = true→x.alike z = true
  | .agg xs,y,z,h,h2 => by
    simp only [V.alike] at h ⊢
    cases y with
    | agg ys =>
      simp only [V.aggOf] at h
      simp only [V.alike] at h2
      cases z with
      | agg zs => simp only [V.aggOf] at h2 ⊢;exact alikeL_trans h h2
      | _ => simp [V.aggOf] at h2
    | _ => simp [V.aggOf] at h
  | .int ..,y,z,h,h2 => by cases y <;> cases z <;> simp_all [V.alike,V.aggOf]
  | .bool _,y,z,h,h2 => by cases y <;> cases z <;> simp_all [V.alike,V.aggOf]
  | .str _,y,z,h,h2 => by cases y <;> cases z <;> simp_all [V.alike,V.aggOf]
  | .lst ..,y,z,h,h2 => by cases y <;> cases z <;> simp_all [V.alike,V.aggOf]
  | .emp _,y,z,h,h2 => by cases y <;> cases z <;> simp_all [V.alike,V.aggOf]
  | .tup _,y,z,h,h2 => by cases y <;> cases z <;> simp_all [V.alike,V.aggOf]
  | .ref ..,y,z,h,h2 => by cases y <;> cases z <;> simp_all [V.alike,V.aggOf]
  | .plc ..,y,z,h,h2 => by cases y <;> cases z <;> simp_all [V.alike,V.aggOf]
  | .ptr ..,y,z,h,h2 => by cases y <;> cases z <;> simp_all [V.alike,V.aggOf]
  | .vptr _,y,z,h,h2 => by cases y <;> cases z <;> simp_all [V.alike,V.aggOf]
  | .clo ..,y,z,h,h2 => by cases y <;> cases z <;> simp_all [V.alike,V.aggOf]
  | .iol ..,y,z,h,h2 => by cases y <;> cases z <;> simp_all [V.alike,V.aggOf]
  | .iop _,y,z,h,h2 => by cases y <;> cases z <;> simp_all [V.alike,V.aggOf]
  | .und,y,z,h,h2 => by cases y <;> cases z <;> simp_all [V.alike,V.aggOf]
theorem alikeL_trans : ∀ {xs ys zs : List V},V.alikeL xs ys = true→V.alikeL ys zs = true→V.alikeL xs zs = true
  | [],ys,zs,h,h2 => by simp only [V.alikeL,List.isEmpty_iff] at h;subst h;exact h2
  | x :: r,[],zs,h,h2 => by simp [V.alikeL] at h
  | x :: r,y :: q,[],h,h2 => by simp [V.alikeL] at h2
  | x :: r,y :: q,z :: p,h,h2 => by
    simp only [V.alikeL,Bool.and_eq_true] at h h2 ⊢
    exact ⟨alike_trans h.1 h2.1,alikeL_trans h.2 h2.2⟩
end
def Alk (a b : Option Ob) : Prop :=
  match a,b with
  | none,none => True
  | some x,some y => x.bx = y.bx∧x.sz = y.sz∧V.alikeL x.xs y.xs = true
  | _,_ => False
theorem Alk.refl : ∀ a,Alk a a
  | none => trivial
  | some x => ⟨rfl,rfl,alikeL_refl _⟩
theorem Alk.symm : ∀ {a b},Alk a b→Alk b a
  | none,none,_ => trivial
  | some x,some y,h => ⟨h.1.symm,h.2.1.symm,alikeL_symm h.2.2⟩
  | none,some _,h => h.elim
  | some _,none,h => h.elim
theorem Alk.trans : ∀ {a b c},Alk a b→Alk b c→Alk a c
  | none,none,none,_,_ => trivial
  | some x,some y,some z,h,k => ⟨h.1.trans k.1,h.2.1.trans k.2.1,alikeL_trans h.2.2 k.2.2⟩
  | none,some _,_,h,_ => h.elim
  | some _,none,_,h,_ => h.elim
  | none,none,some _,_,k => k.elim
  | some _,some _,none,_,k => k.elim
structure Mv (W X : Nat→Prop) (s s' : St) : Prop where
  env : s'.env = s.env
  w : ∀ o,¬ W o→geta s'.obs o = geta s.obs o
  x : ∀ o,¬ X o→Alk (geta s.obs o) (geta s'.obs o)
theorem Mv.refl (W X : Nat→Prop) (s : St) : Mv W X s s := ⟨rfl,fun _ _ => rfl,fun _ _ => Alk.refl _⟩
theorem Mv.trans {W X : Nat→Prop} {s s1 s2 : St} (a : Mv W X s s1) (b : Mv W X s1 s2) : Mv W X s s2 :=
  ⟨b.env.trans a.env,fun o ho => (b.w o ho).trans (a.w o ho),fun o ho => (a.x o ho).trans (b.x o ho)⟩
def Ag (R : Nat→Prop) (s σ : St) : Prop := ∀ o,R o→geta σ.obs o = geta s.obs o
def May (R W X : Nat→Prop) (A : List (Nat × Acc)) : Prop :=
  ∀ o a,(o,a)∈A→match a with
    | .m => True
    | .r => R o
    | .w => R o∧W o
    | .x => R o∧W o∧X o
section
variable {R W X : Nat→Prop} {s s' σ : St}
theorem May.left {A B : List (Nat × Acc)} (h : May R W X (A ++ B)) : May R W X A := fun o a ha => h o a (List.mem_append_left _ ha)
theorem May.right {A B : List (Nat × Acc)} (h : May R W X (A ++ B)) : May R W X B := fun o a ha => h o a (List.mem_append_right _ ha)
theorem Ag.put (h : Ag R s σ) (o : Nat) (x : Ob) : Ag R { s with obs := puta s.obs o x } { σ with obs := puta σ.obs o x } := by
  intro q hq
  by_cases e : q = o
  · subst e;simp only [geta_puta_self]
  · simp only [geta_puta_ne e];exact h q hq
theorem Ag.del (h : Ag R s σ) (o : Nat) : Ag R { s with obs := dela s.obs o } { σ with obs := dela σ.obs o } := by
  intro q hq
  by_cases e : q = o
  · subst e;simp only [geta_dela_self]
  · simp only [geta_dela_ne e];exact h q hq
theorem mv_put {o : Nat} {ob : Ob} (hW : W o) (hX : X o∨Alk (geta s.obs o) (some ob)) : Mv W X s { s with obs := puta s.obs o ob } := by
  refine ⟨rfl,fun q hq => ?_,fun q hq => ?_⟩
  · have e : q ≠ o := fun e => hq (e ▸ hW)
    simp only [geta_puta_ne e]
  · by_cases e : q = o
    · subst e
      simp only [geta_puta_self]
      exact hX.resolve_left hq
    · simp only [geta_puta_ne e];exact Alk.refl _
theorem mv_del {o : Nat} (hW : W o) (hX : X o) : Mv W X s { s with obs := dela s.obs o } := by
  refine ⟨rfl,fun q hq => ?_,fun q hq => ?_⟩
  · have e : q ≠ o := fun e => hq (e ▸ hW)
    simp only [geta_dela_ne e]
  · have e : q ≠ o := fun e => hq (e ▸ hX)
    simp only [geta_dela_ne e];exact Alk.refl _
theorem at_ag (h : Ag R s σ) {o i : Nat} {fs : List Nat} {ver n : Nat} (hR : R o) : σ.at o i fs ver n = s.at o i fs ver n := by
  unfold St.at;rw [h o hR]
theorem at_some {o i : Nat} {fs : List Nat} {ver n : Nat} {a : Nat × List V × Ob} (h : s.at o i fs ver n = some a) : geta s.obs o = some a.2.2∧a.2.2.get i fs = some (.lst true a.1 a.2.1) := by
  unfold St.at at h
  split at h
  · cases h
  · rename_i ob ho
    split at h
    · split at h
      · rename_i hg
        split at h
        · cases h;exact ⟨ho,hg⟩
        · cases h
      · cases h
    · cases h
theorem set_alk {ob ob' : Ob} {i : Nat} {fs : List Nat} {old t : V} (hg : ob.get i fs = some old) (ha : old.alike t = true) (hs : ob.set i fs t = some ob') {v : Nat} : Alk (some ob) (some { ob' with ver := v }) := by
  obtain ⟨x,x',hx,hgx,hsx,halx,hob'⟩ := ob_set hg ha hs
  rw [hob']
  exact ⟨rfl,rfl,alikeL_set hx halx⟩
theorem take_mv {o i : Nat} {fs : List Nat} {ver n : Nat} {r : Nat × List V × St} (h : s.take o i fs ver n = some r) (hW : W o) : Mv W X s r.2.2 := by
  unfold St.take at h
  split at h
  · cases h
  · rename_i a ha
    obtain ⟨h1,h2⟩ := at_some ha
    obtain ⟨ob',hs,e⟩ := mp_some_inv h
    cases e
    exact mv_put hW (.inr (by rw [h1];exact set_alk h2 rfl hs))
theorem take_ag (hA : Ag R s σ) {o i : Nat} {fs : List Nat} {ver n : Nat} {r : Nat × List V × St} (h : s.take o i fs ver n = some r) (hR : R o) : ∃ σ',σ.take o i fs ver n = some (r.1,r.2.1,σ')∧Ag R r.2.2 σ' := by
  unfold St.take at h ⊢
  rw [at_ag hA hR]
  split at h
  · cases h
  · rename_i a ha
    obtain ⟨ob',hs,e⟩ := mp_some_inv h
    cases e
    simp only [hs,mp_some]
    exact ⟨_,rfl,hA.put o _⟩
theorem takeQ_mv {o i : Nat} {fs : List Nat} {ver n : Nat} {r : Nat × List V × St} (h : s.takeQ o i fs ver n = some r) (hW : W o) : Mv W X s r.2.2 := by
  unfold St.takeQ at h
  split at h
  · cases h
  · rename_i a ha
    obtain ⟨h1,h2⟩ := at_some ha
    obtain ⟨ob',hs,e⟩ := mp_some_inv h
    cases e
    exact mv_put hW (.inr (by rw [h1];exact set_alk h2 rfl hs))
theorem takeQ_ag (hA : Ag R s σ) {o i : Nat} {fs : List Nat} {ver n : Nat} {r : Nat × List V × St} (h : s.takeQ o i fs ver n = some r) (hR : R o) : ∃ σ',σ.takeQ o i fs ver n = some (r.1,r.2.1,σ')∧Ag R r.2.2 σ' := by
  unfold St.takeQ at h ⊢
  rw [at_ag hA hR]
  split at h
  · cases h
  · rename_i a ha
    obtain ⟨ob',hs,e⟩ := mp_some_inv h
    cases e
    simp only [hs,mp_some]
    exact ⟨_,rfl,hA.put o _⟩
theorem give_mv {o lo n : Nat} {r : Nat × List V × St} (h : s.give o lo n = some r) (hW : W o) (hX : X o) : Mv W X s r.2.2 := by
  unfold St.give at h
  split at h
  · cases h
  · split at h
    · cases h;exact mv_del hW hX
    · cases h
theorem give_ag (hA : Ag R s σ) {o lo n : Nat} {r : Nat × List V × St} (h : s.give o lo n = some r) (hR : R o) : ∃ σ',σ.give o lo n = some (r.1,r.2.1,σ')∧Ag R r.2.2 σ' := by
  unfold St.give at h ⊢
  rw [hA o hR]
  split at h
  · cases h
  · rename_i ob ho
    split at h
    · rename_i hc
      cases h
      simp only [if_pos hc]
      exact ⟨_,rfl,hA.del o⟩
    · cases h
mutual
theorem fz_mv : ∀ {v : V} {s : St} {r : V × St},v.fz s = some r→May R W X v.accF→Mv W X s r.2
  | .agg xs,s,r,h,m => by
    simp only [V.fz] at h
    obtain ⟨q,hq,e⟩ := mp_some_inv h
    cases e
    exact fzL_mv hq (by simpa only [V.accF] using m)
  | .ref o lo n,s,r,h,m => by
    simp only [V.fz] at h
    obtain ⟨q,hq,e⟩ := mp_some_inv h
    cases e
    obtain ⟨_,h2,h3⟩ := m o .x (by simp [V.accF])
    exact give_mv hq h2 h3
  | .plc o i fs ver n,s,r,h,m => by
    simp only [V.fz] at h
    obtain ⟨q,hq,e⟩ := mp_some_inv h
    cases e
    obtain ⟨_,h2⟩ := m o .w (by simp [V.accF])
    exact takeQ_mv hq h2
  | .lst own sz xs,s,r,h,m => by
    cases own
    · simp only [V.fz,Option.some.injEq] at h;subst h;exact Mv.refl ..
    · cases xs with
      | nil => simp only [V.fz,Option.some.injEq] at h;subst h;exact Mv.refl ..
      | cons x q => simp [V.fz] at h
  | .int ..,s,r,h,m => by simp only [V.fz,Option.some.injEq] at h;subst h;exact Mv.refl ..
  | .bool _,s,r,h,m => by simp only [V.fz,Option.some.injEq] at h;subst h;exact Mv.refl ..
  | .str _,s,r,h,m => by simp only [V.fz,Option.some.injEq] at h;subst h;exact Mv.refl ..
  | .emp _,s,r,h,m => by simp only [V.fz,Option.some.injEq] at h;subst h;exact Mv.refl ..
  | .ptr ..,s,r,h,m => by simp [V.fz] at h
  | .vptr _,s,r,h,m => by simp [V.fz] at h
  | .clo ..,s,r,h,m => by simp [V.fz] at h
  | .und,s,r,h,m => by simp [V.fz] at h
  | .tup _,s,r,h,m => by simp [V.fz] at h
  | .iol ..,s,r,h,m => by simp [V.fz] at h
  | .iop _,s,r,h,m => by simp [V.fz] at h
theorem fzL_mv : ∀ {xs : List V} {s : St} {r : List V × St},V.fzL xs s = some r→May R W X (V.accFL xs)→Mv W X s r.2
  | [],s,r,h,m => by simp only [V.fzL,Option.some.injEq] at h;subst h;exact Mv.refl ..
  | x :: q,s,r,h,m => by
    simp only [V.fzL] at h
    split at h
    · cases h
    · rename_i a ha
      obtain ⟨b,hb,e⟩ := mp_some_inv h
      cases e
      simp only [V.accFL] at m
      exact (fz_mv ha m.left).trans (show Mv W X a.2 b.2 from fzL_mv hb m.right)
end
mutual
theorem fz_ag : ∀ {v : V} {s σ : St} {r : V × St},Ag R s σ→v.fz s = some r→May R W X v.accF→∃ σ',v.fz σ = some (r.1,σ')∧Ag R r.2 σ'
  | .agg xs,s,σ,r,hA,h,m => by
    simp only [V.fz] at h ⊢
    obtain ⟨q,hq,e⟩ := mp_some_inv h
    cases e
    obtain ⟨σ',h1,h2⟩ := fzL_ag hA hq (by simpa only [V.accF] using m)
    rw [h1]
    exact ⟨σ',rfl,h2⟩
  | .ref o lo n,s,σ,r,hA,h,m => by
    simp only [V.fz] at h ⊢
    obtain ⟨q,hq,e⟩ := mp_some_inv h
    cases e
    obtain ⟨h1,_,_⟩ := m o .x (by simp [V.accF])
    obtain ⟨σ',k1,k2⟩ := give_ag hA hq h1
    rw [k1]
    exact ⟨σ',rfl,k2⟩
  | .plc o i fs ver n,s,σ,r,hA,h,m => by
    simp only [V.fz] at h ⊢
    obtain ⟨q,hq,e⟩ := mp_some_inv h
    cases e
    obtain ⟨h1,_⟩ := m o .w (by simp [V.accF])
    obtain ⟨σ',k1,k2⟩ := takeQ_ag hA hq h1
    rw [k1]
    exact ⟨σ',rfl,k2⟩
  | .lst own sz xs,s,σ,r,hA,h,m => by
    cases own
    · simp only [V.fz,Option.some.injEq] at h ⊢;subst h;exact ⟨σ,rfl,hA⟩
    · cases xs with
      | nil => simp only [V.fz,Option.some.injEq] at h ⊢;subst h;exact ⟨σ,rfl,hA⟩
      | cons x q => simp [V.fz] at h
  | .int ..,s,σ,r,hA,h,m => by simp only [V.fz,Option.some.injEq] at h ⊢;subst h;exact ⟨σ,rfl,hA⟩
  | .bool _,s,σ,r,hA,h,m => by simp only [V.fz,Option.some.injEq] at h ⊢;subst h;exact ⟨σ,rfl,hA⟩
  | .str _,s,σ,r,hA,h,m => by simp only [V.fz,Option.some.injEq] at h ⊢;subst h;exact ⟨σ,rfl,hA⟩
  | .emp _,s,σ,r,hA,h,m => by simp only [V.fz,Option.some.injEq] at h ⊢;subst h;exact ⟨σ,rfl,hA⟩
  | .ptr ..,s,σ,r,hA,h,m => by simp [V.fz] at h
  | .vptr _,s,σ,r,hA,h,m => by simp [V.fz] at h
  | .clo ..,s,σ,r,hA,h,m => by simp [V.fz] at h
  | .und,s,σ,r,hA,h,m => by simp [V.fz] at h
  | .tup _,s,σ,r,hA,h,m => by simp [V.fz] at h
  | .iol ..,s,σ,r,hA,h,m => by simp [V.fz] at h
  | .iop _,s,σ,r,hA,h,m => by simp [V.fz] at h
theorem fzL_ag : ∀ {xs : List V} {s σ : St} {r : List V × St},Ag R s σ→V.fzL xs s = some r→May R W X (V.accFL xs)→∃ σ',V.fzL xs σ = some (r.1,σ')∧Ag R r.2 σ'
  | [],s,σ,r,hA,h,m => by simp only [V.fzL,Option.some.injEq] at h ⊢;subst h;exact ⟨σ,rfl,hA⟩
  | x :: q,s,σ,r,hA,h,m => by
    simp only [V.fzL] at h ⊢
    split at h
    · cases h
    · rename_i a ha
      obtain ⟨b,hb,e⟩ := mp_some_inv h
      cases e
      simp only [V.accFL] at m
      obtain ⟨σ1,h1,h2⟩ := fz_ag hA ha m.left
      obtain ⟨σ2,h3,h4⟩ := fzL_ag h2 hb m.right
      rw [h1]
      simp only [h3,mp_some]
      exact ⟨σ2,rfl,h4⟩
end
mutual
theorem fzI_mv : ∀ {v : V} {s : St} {r : V × St},v.fzI s = some r→May R W X v.accF→Mv W X s r.2
  | .agg xs,s,r,h,m => by
    simp only [V.fzI] at h
    obtain ⟨q,hq,e⟩ := mp_some_inv h
    cases e
    exact fzIL_mv hq (by simpa only [V.accF] using m)
  | .lst own sz xs,s,r,h,m => by
    cases own
    · simp only [V.fzI,V.fz,Option.some.injEq] at h;subst h;exact Mv.refl ..
    · simp only [V.fzI,Option.some.injEq] at h;subst h;exact Mv.refl ..
  | .ref o lo n,s,r,h,m => fz_mv (v:=.ref o lo n) h m
  | .plc o i fs ver n,s,r,h,m => fz_mv (v:=.plc o i fs ver n) h m
  | .int ..,s,r,h,m => by simp only [V.fzI,V.fz,Option.some.injEq] at h;subst h;exact Mv.refl ..
  | .bool _,s,r,h,m => by simp only [V.fzI,V.fz,Option.some.injEq] at h;subst h;exact Mv.refl ..
  | .str _,s,r,h,m => by simp only [V.fzI,V.fz,Option.some.injEq] at h;subst h;exact Mv.refl ..
  | .emp _,s,r,h,m => by simp only [V.fzI,V.fz,Option.some.injEq] at h;subst h;exact Mv.refl ..
  | .ptr ..,s,r,h,m => by simp [V.fzI,V.fz] at h
  | .vptr _,s,r,h,m => by simp [V.fzI,V.fz] at h
  | .clo ..,s,r,h,m => by simp [V.fzI,V.fz] at h
  | .und,s,r,h,m => by simp [V.fzI,V.fz] at h
  | .tup _,s,r,h,m => by simp [V.fzI,V.fz] at h
  | .iol ..,s,r,h,m => by simp [V.fzI,V.fz] at h
  | .iop _,s,r,h,m => by simp [V.fzI,V.fz] at h
theorem fzIL_mv : ∀ {xs : List V} {s : St} {r : List V × St},V.fzIL xs s = some r→May R W X (V.accFL xs)→Mv W X s r.2
  | [],s,r,h,m => by simp only [V.fzIL,Option.some.injEq] at h;subst h;exact Mv.refl ..
  | x :: q,s,r,h,m => by
    simp only [V.fzIL] at h
    split at h
    · cases h
    · rename_i a ha
      obtain ⟨b,hb,e⟩ := mp_some_inv h
      cases e
      simp only [V.accFL] at m
      exact (fzI_mv ha m.left).trans (show Mv W X a.2 b.2 from fzIL_mv hb m.right)
end
mutual
theorem fzI_ag : ∀ {v : V} {s σ : St} {r : V × St},Ag R s σ→v.fzI s = some r→May R W X v.accF→∃ σ',v.fzI σ = some (r.1,σ')∧Ag R r.2 σ'
  | .agg xs,s,σ,r,hA,h,m => by
    simp only [V.fzI] at h ⊢
    obtain ⟨q,hq,e⟩ := mp_some_inv h
    cases e
    obtain ⟨σ',h1,h2⟩ := fzIL_ag hA hq (by simpa only [V.accF] using m)
    rw [h1]
    exact ⟨σ',rfl,h2⟩
  | .lst own sz xs,s,σ,r,hA,h,m => by
    cases own
    · simp only [V.fzI,V.fz,Option.some.injEq] at h ⊢;subst h;exact ⟨σ,rfl,hA⟩
    · simp only [V.fzI,Option.some.injEq] at h ⊢;subst h;exact ⟨σ,rfl,hA⟩
  | .ref o lo n,s,σ,r,hA,h,m => fz_ag (v:=.ref o lo n) hA h m
  | .plc o i fs ver n,s,σ,r,hA,h,m => fz_ag (v:=.plc o i fs ver n) hA h m
  | .int ..,s,σ,r,hA,h,m => by simp only [V.fzI,V.fz,Option.some.injEq] at h ⊢;subst h;exact ⟨σ,rfl,hA⟩
  | .bool _,s,σ,r,hA,h,m => by simp only [V.fzI,V.fz,Option.some.injEq] at h ⊢;subst h;exact ⟨σ,rfl,hA⟩
  | .str _,s,σ,r,hA,h,m => by simp only [V.fzI,V.fz,Option.some.injEq] at h ⊢;subst h;exact ⟨σ,rfl,hA⟩
  | .emp _,s,σ,r,hA,h,m => by simp only [V.fzI,V.fz,Option.some.injEq] at h ⊢;subst h;exact ⟨σ,rfl,hA⟩
  | .ptr ..,s,σ,r,hA,h,m => by simp [V.fzI,V.fz] at h
  | .vptr _,s,σ,r,hA,h,m => by simp [V.fzI,V.fz] at h
  | .clo ..,s,σ,r,hA,h,m => by simp [V.fzI,V.fz] at h
  | .und,s,σ,r,hA,h,m => by simp [V.fzI,V.fz] at h
  | .tup _,s,σ,r,hA,h,m => by simp [V.fzI,V.fz] at h
  | .iol ..,s,σ,r,hA,h,m => by simp [V.fzI,V.fz] at h
  | .iop _,s,σ,r,hA,h,m => by simp [V.fzI,V.fz] at h
theorem fzIL_ag : ∀ {xs : List V} {s σ : St} {r : List V × St},Ag R s σ→V.fzIL xs s = some r→May R W X (V.accFL xs)→∃ σ',V.fzIL xs σ = some (r.1,σ')∧Ag R r.2 σ'
  | [],s,σ,r,hA,h,m => by simp only [V.fzIL,Option.some.injEq] at h ⊢;subst h;exact ⟨σ,rfl,hA⟩
  | x :: q,s,σ,r,hA,h,m => by
    simp only [V.fzIL] at h ⊢
    split at h
    · cases h
    · rename_i a ha
      obtain ⟨b,hb,e⟩ := mp_some_inv h
      cases e
      simp only [V.accFL] at m
      obtain ⟨σ1,h1,h2⟩ := fzI_ag hA ha m.left
      obtain ⟨σ2,h3,h4⟩ := fzIL_ag h2 hb m.right
      rw [h1]
      simp only [h3,mp_some]
      exact ⟨σ2,rfl,h4⟩
end
theorem copyRow_mv {o lo n : Nat} {r : List V × St} (h : s.copyRow o lo n = some r) (hW : W o) : Mv W X s r.2 := by
  unfold St.copyRow at h
  split at h
  · cases h
  · rename_i ob ho
    split at h
    · cases h;exact mv_put hW (.inr (by rw [ho];exact ⟨rfl,rfl,shareL_alike _⟩))
    · cases h
theorem copyRow_ag (hA : Ag R s σ) {o lo n : Nat} {r : List V × St} (h : s.copyRow o lo n = some r) (hR : R o) : ∃ σ',σ.copyRow o lo n = some (r.1,σ')∧Ag R r.2 σ' := by
  unfold St.copyRow at h ⊢
  rw [hA o hR]
  split at h
  · cases h
  · rename_i ob ho
    split at h
    · rename_i hc
      cases h
      simp only [if_pos hc]
      exact ⟨_,rfl,hA.put o _⟩
    · cases h
theorem moveRow_mv {o lo n : Nat} {r : List V × St} (h : s.moveRow o lo n = some r) (hW : W o) : Mv W X s r.2 := by
  unfold St.moveRow at h
  split at h
  · cases h
  · rename_i ob ho
    split at h
    · cases h;exact mv_put hW (.inr (by rw [ho];exact ⟨rfl,rfl,moveL_alike _ _ _⟩))
    · cases h
theorem moveRow_ag (hA : Ag R s σ) {o lo n : Nat} {r : List V × St} (h : s.moveRow o lo n = some r) (hR : R o) : ∃ σ',σ.moveRow o lo n = some (r.1,σ')∧Ag R r.2 σ' := by
  unfold St.moveRow at h ⊢
  rw [hA o hR]
  split at h
  · cases h
  · rename_i ob ho
    split at h
    · rename_i hc
      cases h
      simp only [if_pos hc]
      exact ⟨_,rfl,hA.put o _⟩
    · cases h
theorem copyPlc_mv {o i : Nat} {fs : List Nat} {ver n : Nat} {r : List V × St} (h : s.copyPlc o i fs ver n = some r) (hW : W o) : Mv W X s r.2 := by
  unfold St.copyPlc at h
  split at h
  · cases h
  · rename_i a ha
    obtain ⟨h1,h2⟩ := at_some ha
    obtain ⟨ob',hs,e⟩ := mp_some_inv h
    cases e
    refine mv_put hW (.inr ?_)
    rw [h1]
    exact set_alk (v:=ob'.ver) h2 rfl hs
theorem copyPlc_ag (hA : Ag R s σ) {o i : Nat} {fs : List Nat} {ver n : Nat} {r : List V × St} (h : s.copyPlc o i fs ver n = some r) (hR : R o) : ∃ σ',σ.copyPlc o i fs ver n = some (r.1,σ')∧Ag R r.2 σ' := by
  unfold St.copyPlc at h ⊢
  rw [at_ag hA hR]
  split at h
  · cases h
  · rename_i a ha
    obtain ⟨ob',hs,e⟩ := mp_some_inv h
    cases e
    simp only [hs,mp_some]
    exact ⟨_,rfl,hA.put o _⟩
theorem elems_mv {base : Nat} {y : V} {r : List V × St} (h : s.elems base y = some r) (m : May R W X (accS base y)) : Mv W X s r.2 := by
  unfold St.elems at h
  split at h
  · cases h;exact Mv.refl ..
  · cases h;exact Mv.refl ..
  · cases h;exact Mv.refl ..
  · rename_i o lo n
    split at h
    · rename_i hb
      obtain ⟨q,hq,e⟩ := mp_some_inv h
      cases e
      obtain ⟨_,h2,h3⟩ := m o .x (by simp [accS,hb])
      exact give_mv hq h2 h3
    · rename_i hb
      obtain ⟨_,h2⟩ := m o .w (by simp [accS,hb])
      split at h
      · exact moveRow_mv h h2
      · exact copyRow_mv h h2
  · rename_i o i fs ver n
    obtain ⟨_,h2⟩ := m o .w (by simp [accS,V.accF])
    exact copyPlc_mv h h2
  · cases h
theorem elems_ag (hA : Ag R s σ) {base : Nat} {y : V} {r : List V × St} (h : s.elems base y = some r) (m : May R W X (accS base y)) : ∃ σ',σ.elems base y = some (r.1,σ')∧Ag R r.2 σ' := by
  unfold St.elems at h ⊢
  split at h
  · cases h;exact ⟨_,rfl,hA⟩
  · cases h;exact ⟨_,rfl,hA⟩
  · cases h;exact ⟨_,rfl,hA⟩
  · rename_i o lo n
    split at h
    · rename_i hb
      obtain ⟨q,hq,e⟩ := mp_some_inv h
      cases e
      obtain ⟨h1,_,_⟩ := m o .x (by simp [accS,hb])
      obtain ⟨σ',k1,k2⟩ := give_ag hA hq h1
      simp only [if_pos hb,k1,mp_some]
      exact ⟨_,rfl,k2⟩
    · rename_i hb
      obtain ⟨h1,_⟩ := m o .w (by simp [accS,hb])
      simp only [if_neg hb]
      split at h
      · rename_i h0
        rw [if_pos h0]
        exact moveRow_ag hA h h1
      · rename_i h0
        rw [if_neg h0]
        exact copyRow_ag hA h h1
  · rename_i o i fs ver n
    obtain ⟨h1,_⟩ := m o .w (by simp [accS,V.accF])
    exact copyPlc_ag hA h h1
  · cases h
theorem base_mv {x : V} {r : Nat × List V × St} (h : s.base x = some r) (m : May R W X x.accF) : Mv W X s r.2.2 := by
  unfold St.base at h
  split at h
  · cases h;exact Mv.refl ..
  · rename_i o n
    obtain ⟨_,h2,h3⟩ := m o .x (by simp [V.accF])
    exact give_mv h h2 h3
  · rename_i o i fs ver n
    obtain ⟨_,h2⟩ := m o .w (by simp [V.accF])
    exact take_mv h h2
  · cases h
theorem base_ag (hA : Ag R s σ) {x : V} {r : Nat × List V × St} (h : s.base x = some r) (m : May R W X x.accF) : ∃ σ',σ.base x = some (r.1,r.2.1,σ')∧Ag R r.2.2 σ' := by
  unfold St.base at h ⊢
  split at h
  · cases h;exact ⟨_,rfl,hA⟩
  · rename_i o n
    obtain ⟨h1,_,_⟩ := m o .x (by simp [V.accF])
    exact give_ag hA h h1
  · rename_i o i fs ver n
    obtain ⟨h1,_⟩ := m o .w (by simp [V.accF])
    exact take_ag hA h h1
  · cases h
end
end Go.Proofs.Ytbcgenkegnmkhaa.Ev
namespace Go.Proofs.Ytbcgenkegnmkhaa.Ev
open Go
set_option linter.unusedSectionVars false
set_option linter.unusedSimpArgs false
theorem getF_sub : ∀ {fs : List Nat} {x y : V} {q : Nat},getF x fs = some y→q∈y.mention→q∈x.mention
  | [],x,y,q,h,hq => by simp only [getF,Option.some.injEq] at h;subst h;exact hq
  | i :: p,x,y,q,h,hq => by
    cases x with
    | agg xs =>
      simp only [getF] at h
      cases hx : xs[i]? with
      | none => rw [hx] at h;cases h
      | some z =>
        rw [hx] at h
        simp only at h
        exact mem_mentionL.2 ⟨z,List.mem_of_getElem? hx,getF_sub h hq⟩
    | _ => simp [getF] at h
theorem obget_sub {ob : Ob} {i : Nat} {fs : List Nat} {x : V} {q : Nat} (h : ob.get i fs = some x) (hq : q∈x.mention) : q∈V.mentionL ob.xs := by
  unfold Ob.get at h
  cases hx : ob.xs[i]? with
  | none => rw [hx] at h;cases h
  | some z => rw [hx] at h;exact mem_mentionL.2 ⟨z,List.mem_of_getElem? hx,getF_sub h hq⟩
theorem mem_accAll {a b : Acc} {l : List Nat} {o : Nat} : (o,b)∈accAll a l↔o∈l∧b = a := by
  unfold accAll
  constructor
  · intro h
    obtain ⟨q,hq,e⟩ := List.mem_map.1 h
    cases e;exact ⟨hq,rfl⟩
  · rintro ⟨h,rfl⟩
    exact List.mem_map.2 ⟨o,h,rfl⟩
mutual
theorem fz_absent {o : Nat} : ∀ {v : V} {s : St} {r : V × St},v.fz s = some r→geta s.obs o = none→geta r.2.obs o = none
  | .agg xs,s,r,h,ho => by
    simp only [V.fz] at h
    obtain ⟨q,hq,e⟩ := mp_some_inv h
    cases e
    exact fzL_absent hq ho
  | .ref k lo n,s,r,h,ho => by
    simp only [V.fz] at h
    obtain ⟨q,hq,e⟩ := mp_some_inv h
    cases e
    unfold St.give at hq
    split at hq
    · cases hq
    · rename_i ob hk
      split at hq
      · cases hq
        have e : o ≠ k := fun e => by subst e;rw [ho] at hk;cases hk
        simp only [geta_dela_ne e];exact ho
      · cases hq
  | .plc k i fs ver n,s,r,h,ho => by
    simp only [V.fz] at h
    obtain ⟨q,hq,e⟩ := mp_some_inv h
    cases e
    unfold St.takeQ at hq
    split at hq
    · cases hq
    · rename_i a ha
      obtain ⟨ob',hs,e⟩ := mp_some_inv hq
      cases e
      have e : o ≠ k := fun e => by subst e;rw [(at_some ha).1] at ho;cases ho
      simp only [geta_puta_ne e];exact ho
  | .lst own sz xs,s,r,h,ho => by
    cases own
    · simp only [V.fz,Option.some.injEq] at h;subst h;exact ho
    · cases xs with
      | nil => simp only [V.fz,Option.some.injEq] at h;subst h;exact ho
      | cons x q => simp [V.fz] at h
  | .int ..,s,r,h,ho => by simp only [V.fz,Option.some.injEq] at h;subst h;exact ho
  | .bool _,s,r,h,ho => by simp only [V.fz,Option.some.injEq] at h;subst h;exact ho
  | .str _,s,r,h,ho => by simp only [V.fz,Option.some.injEq] at h;subst h;exact ho
  | .emp _,s,r,h,ho => by simp only [V.fz,Option.some.injEq] at h;subst h;exact ho
  | .ptr ..,s,r,h,ho => by simp [V.fz] at h
  | .vptr _,s,r,h,ho => by simp [V.fz] at h
  | .clo ..,s,r,h,ho => by simp [V.fz] at h
  | .und,s,r,h,ho => by simp [V.fz] at h
  | .tup _,s,r,h,ho => by simp [V.fz] at h
  | .iol ..,s,r,h,ho => by simp [V.fz] at h
  | .iop _,s,r,h,ho => by simp [V.fz] at h
theorem fzL_absent {o : Nat} : ∀ {xs : List V} {s : St} {r : List V × St},V.fzL xs s = some r→geta s.obs o = none→geta r.2.obs o = none
  | [],s,r,h,ho => by simp only [V.fzL,Option.some.injEq] at h;subst h;exact ho
  | x :: q,s,r,h,ho => by
    simp only [V.fzL] at h
    split at h
    · cases h
    · rename_i a ha
      obtain ⟨b,hb,e⟩ := mp_some_inv h
      cases e
      have h1 := fz_absent ha ho
      exact (fzL_absent hb h1 : geta b.2.obs o = none)
end
mutual
theorem fzI_absent {o : Nat} : ∀ {v : V} {s : St} {r : V × St},v.fzI s = some r→geta s.obs o = none→geta r.2.obs o = none
  | .agg xs,s,r,h,ho => by
    simp only [V.fzI] at h
    obtain ⟨q,hq,e⟩ := mp_some_inv h
    cases e
    exact fzIL_absent hq ho
  | .lst own sz xs,s,r,h,ho => by
    cases own
    · simp only [V.fzI,V.fz,Option.some.injEq] at h;subst h;exact ho
    · simp only [V.fzI,Option.some.injEq] at h;subst h;exact ho
  | .ref k lo n,s,r,h,ho => fz_absent (v:=.ref k lo n) h ho
  | .plc k i fs ver n,s,r,h,ho => fz_absent (v:=.plc k i fs ver n) h ho
  | .int ..,s,r,h,ho => by simp only [V.fzI,V.fz,Option.some.injEq] at h;subst h;exact ho
  | .bool _,s,r,h,ho => by simp only [V.fzI,V.fz,Option.some.injEq] at h;subst h;exact ho
  | .str _,s,r,h,ho => by simp only [V.fzI,V.fz,Option.some.injEq] at h;subst h;exact ho
  | .emp _,s,r,h,ho => by simp only [V.fzI,V.fz,Option.some.injEq] at h;subst h;exact ho
  | .ptr ..,s,r,h,ho => by simp [V.fzI,V.fz] at h
  | .vptr _,s,r,h,ho => by simp [V.fzI,V.fz] at h
  | .clo ..,s,r,h,ho => by simp [V.fzI,V.fz] at h
  | .und,s,r,h,ho => by simp [V.fzI,V.fz] at h
  | .tup _,s,r,h,ho => by simp [V.fzI,V.fz] at h
  | .iol ..,s,r,h,ho => by simp [V.fzI,V.fz] at h
  | .iop _,s,r,h,ho => by simp [V.fzI,V.fz] at h
theorem fzIL_absent {o : Nat} : ∀ {xs : List V} {s : St} {r : List V × St},V.fzIL xs s = some r→geta s.obs o = none→geta r.2.obs o = none
  | [],s,r,h,ho => by simp only [V.fzIL,Option.some.injEq] at h;subst h;exact ho
  | x :: q,s,r,h,ho => by
    simp only [V.fzIL] at h
    split at h
    · cases h
    · rename_i a ha
      obtain ⟨b,hb,e⟩ := mp_some_inv h
      cases e
      have h1 := fzI_absent ha ho
      exact (fzIL_absent hb h1 : geta b.2.obs o = none)
end
section
variable {R W X : Nat→Prop} {s s' σ : St}
mutual
theorem snap_rd (hA : Ag R s σ) : ∀ {v v' : V},v.snap s = some v'→(∀ o∈v.mention,R o)→v.snap σ = some v'
  | .agg xs,v',h,m => by
    simp only [V.snap] at h ⊢
    obtain ⟨q,hq,e⟩ := mp_some_inv h
    rw [snapL_rd hA hq (by simpa only [V.mention] using m)]
    exact congrArg some e
  | .ref o lo n,v',h,m => by
    simp only [V.snap,rowOf] at h ⊢
    rw [hA o (m o (by simp [V.mention]))]
    exact h
  | .plc o i fs ver n,v',h,m => by
    simp only [V.snap] at h ⊢
    rw [at_ag hA (m o (by simp [V.mention]))]
    exact h
  | .int ..,v',h,m => h
  | .bool _,v',h,m => h
  | .str _,v',h,m => h
  | .lst ..,v',h,m => h
  | .emp _,v',h,m => h
  | .vptr _,v',h,m => h
  | .ptr ..,v',h,m => h
  | .clo ..,v',h,m => h
  | .und,v',h,m => h
  | .tup _,v',h,m => h
  | .iol ..,v',h,m => h
  | .iop _,v',h,m => h
theorem snapL_rd (hA : Ag R s σ) : ∀ {xs ys : List V},V.snapL s xs = some ys→(∀ o∈V.mentionL xs,R o)→V.snapL σ xs = some ys
  | [],ys,h,m => h
  | x :: r,ys,h,m => by
    simp only [V.snapL] at h ⊢
    split at h
    · cases h
    · rename_i a ha
      obtain ⟨b,hb,e⟩ := mp_some_inv h
      rw [snap_rd hA ha (fun o ho => m o (by simp [V.mentionL,ho])),snapL_rd hA hb (fun o ho => m o (by simp [V.mentionL,ho]))]
      exact congrArg some e
end
theorem snapP_rd (hA : Ag R s σ) {v v' : V} (h : v.snapP s = some v') (m : ∀ o∈v.mention ++ v.mention.flatMap (boxesOf s.obs),R o) : v.snapP σ = some v' := by
  unfold V.snapP at h ⊢
  split at h
  · rename_i o i fs
    rw [hA o (m o (by simp [V.mention]))]
    cases ho : geta s.obs o with
    | none => rw [ho] at h;cases h
    | some ob =>
      rw [ho] at h
      simp only at h ⊢
      cases hg : ob.get i fs with
      | none => rw [hg] at h;cases h
      | some x =>
        rw [hg] at h
        simp only at h ⊢
        split at h
        · rename_i hc
          rw [if_pos hc]
          obtain ⟨y,hy,e⟩ := mp_some_inv h
          rw [snap_rd hA hy (fun q hq => ?_)]
          · exact congrArg some e
          · rcases hc with hb | he
            · refine m q (List.mem_append_right _ (List.mem_flatMap.2 ⟨o,by simp [V.mention],?_⟩))
              simp only [boxesOf,ho,Option.elim_some,if_pos hb]
              exact obget_sub hg hq
            · rw [List.isEmpty_iff.1 he] at hq;cases hq
        · cases h
  · exact snap_rd hA h (fun o ho => m o (List.mem_append_left _ ho))
theorem snapPL_rd (hA : Ag R s σ) : ∀ {xs ys : List V},V.snapPL s xs = some ys→(∀ o∈V.mentionL xs ++ (V.mentionL xs).flatMap (boxesOf s.obs),R o)→V.snapPL σ xs = some ys
  | [],ys,h,m => h
  | x :: r,ys,h,m => by
    simp only [V.snapPL] at h ⊢
    split at h
    · cases h
    · rename_i a ha
      obtain ⟨b,hb,e⟩ := mp_some_inv h
      have m1 : ∀ o∈x.mention ++ x.mention.flatMap (boxesOf s.obs),R o := by
        intro o ho
        refine m o ?_
        simp only [V.mentionL,List.mem_append,List.flatMap_append] at ho ⊢
        rcases ho with ho | ho
        · exact .inl (.inl ho)
        · exact .inr (.inl ho)
      have m2 : ∀ o∈V.mentionL r ++ (V.mentionL r).flatMap (boxesOf s.obs),R o := by
        intro o ho
        refine m o ?_
        simp only [V.mentionL,List.mem_append,List.flatMap_append] at ho ⊢
        rcases ho with ho | ho
        · exact .inl (.inr ho)
        · exact .inr (.inr ho)
      rw [snapP_rd hA ha m1,snapPL_rd hA hb m2]
      exact congrArg some e
theorem snapA_rd (hA : Ag R s σ) {v v' : V} (h : v.snapA s = some v') (m : ∀ o∈v.mention ++ v.mention.flatMap (boxesOf s.obs),R o) : v.snapA σ = some v' := by
  unfold V.snapA at h ⊢
  split at h
  · obtain ⟨y,hy,e⟩ := mp_some_inv h
    rw [snapPL_rd hA hy (by simpa only [V.mention] using m)]
    exact congrArg some e
  · exact snapP_rd hA h m
theorem snapsV_rd (hA : Ag R s σ) : ∀ {vs asv : List V} {ws : List V} {ms : List Md},snapsV s ms vs = some asv→(∀ v∈ws,True)→(∀ (i : Nat) v w,vs[i]? = some v→ws[i]? = some w→ms.getD i .snap = .snap→v = w)→vs.length = ws.length→May R W X (accSnap s.obs ms ws)→snapsV σ ms vs = some asv
  | [],asv,ws,ms,h,_,hw,hl,m => h
  | v :: r,asv,[],ms,h,_,hw,hl,m => by simp at hl
  | v :: r,asv,w :: ws,ms,h,_,hw,hl,m => by
    simp only [snapsV] at h ⊢
    simp only [accSnap] at m
    have hw' : ∀ (i : Nat) v w,r[i]? = some v→ws[i]? = some w→ms.tail.getD i .snap = .snap→v = w := by
      intro i v' w' h1 h2 h3
      refine hw (i + 1) v' w' h1 h2 ?_
      cases ms with
      | nil => simp
      | cons a b => simpa using h3
    cases hm : ms.headD .snap with
    | snap =>
      rw [hm] at h m
      simp only at h m ⊢
      have hvw : v = w := hw 0 v w rfl rfl (by cases ms <;> first | rfl | exact hm)
      split at h
      · cases h
      · rename_i a ha
        obtain ⟨b,hb,e⟩ := mp_some_inv h
        have h1 : ∀ o∈v.mention ++ v.mention.flatMap (boxesOf s.obs),R o := by
          intro o ho
          rw [hvw] at ho
          exact m.left o .r (mem_accAll.2 ⟨ho,rfl⟩)
        rw [snapA_rd hA ha h1,snapsV_rd hA hb (fun _ _ => trivial) hw' (by simpa using hl) m.right]
        exact congrArg some e
    | take =>
      rw [hm] at h
      simp only at h ⊢
      obtain ⟨b,hb,e⟩ := mp_some_inv h
      rw [snapsV_rd hA hb (fun _ _ => trivial) hw' (by simpa using hl) m.right]
      exact congrArg some e
    | io =>
      rw [hm] at h
      simp only at h ⊢
      obtain ⟨b,hb,e⟩ := mp_some_inv h
      rw [snapsV_rd hA hb (fun _ _ => trivial) hw' (by simpa using hl) m.right]
      exact congrArg some e
structure LMv (W X : Nat→Prop) (s s' : St) (bs : List (Nat × Ob)) : Prop where
  env : s'.env = s.env
  w : ∀ o,¬ W o→geta s'.obs o = geta s.obs o
  x : ∀ o,¬ X o→(∀ p∈bs,p.1 ≠ o)→Alk (geta s.obs o) (geta s'.obs o)
  b : ∀ p∈bs,W p.1∧(X p.1∨Alk (geta s.obs p.1) (some p.2))
theorem Mv.lmv (h : Mv W X s s') : LMv W X s s' [] := ⟨h.env,h.w,fun o ho _ => h.x o ho,fun p hp => by cases hp⟩
theorem lendOne_mv {m : Md} {v : V} {a : V × St × List (Nat × Ob)} (h : lendOne s m v = some a) (hm : May R W X (accOne s m v)) : LMv W X s a.2.1 a.2.2 := by
  cases m with
  | snap =>
    simp only [lendOne] at h
    split at h
    · cases h
    · simp only [Option.some.injEq] at h;subst h;exact (Mv.refl W X s).lmv
  | take =>
    simp only [lendOne] at h
    split at h
    · cases h
    · rename_i q hq
      split at h
      · cases h;exact (fz_mv hq hm).lmv
      · cases h
  | io =>
    simp only [lendOne] at h
    simp only [accOne] at hm
    split at h
    · rename_i o lo n
      have hW : W o := (hm.left o .w (mem_accAll.2 ⟨by simp [V.mention],rfl⟩)).2
      split at h
      · cases h
      · rename_i ob ho
        split at h
        · cases h
          refine ⟨rfl,fun q hq => ?_,fun q hq hb => ?_,fun p hp => ?_⟩
          · have e : q ≠ o := fun e => hq (e ▸ hW)
            simp only [geta_dela_ne e]
          · have e : q ≠ o := fun e => hb (o,ob) (by simp) e.symm
            simp only [geta_dela_ne e];exact Alk.refl _
          · simp only [List.mem_singleton] at hp
            subst hp
            exact ⟨hW,.inr (by simp only [ho];exact Alk.refl _)⟩
        · cases h
    · rename_i o i fs
      have hW : W o := (hm.left o .w (mem_accAll.2 ⟨by simp [V.mention],rfl⟩)).2
      split at h
      · cases h
      · rename_i ob ho
        split at h
        · rename_i x hx
          split at h
          · rename_i hc
            split at h
            · cases h
            · rename_i q hq
              cases h
              have hF : May R W X x.accF := by
                intro k a ha
                refine hm.right k a (List.mem_flatMap.2 ⟨o,by simp [V.mention],?_⟩)
                simp only [boxF,ho,Option.elim_some,if_pos hc.1,hx]
                simp only [V.accFL,List.append_nil]
                exact ha
              have hz := fzI_mv hq hF
              refine ⟨hz.env,fun k hk => ?_,fun k hk hb => ?_,fun p hp => ?_⟩
              · rw [hz.w k hk]
                have e : k ≠ o := fun e => hk (e ▸ hW)
                simp only [geta_dela_ne e]
              · have e : k ≠ o := fun e => hb (o,ob) (by simp) e.symm
                have := hz.x k hk
                simp only [geta_dela_ne e] at this
                exact this
              · simp only [List.mem_singleton] at hp
                subst hp
                exact ⟨hW,.inr (by simp only [ho];exact Alk.refl _)⟩
          · cases h
        · cases h
    · cases h
theorem lendOne_ag (hA : Ag R s σ) {m : Md} {v : V} {a : V × St × List (Nat × Ob)} (h : lendOne s m v = some a) (hm : May R W X (accOne s m v)) : ∃ σ',lendOne σ m v = some (a.1,σ',a.2.2)∧Ag R a.2.1 σ' := by
  cases m with
  | snap =>
    simp only [lendOne] at h ⊢
    split at h
    · cases h
    · rename_i ht
      rw [if_neg ht]
      simp only [Option.some.injEq] at h ⊢;subst h;exact ⟨σ,rfl,hA⟩
  | take =>
    simp only [lendOne] at h ⊢
    split at h
    · cases h
    · rename_i q hq
      split at h
      · rename_i hk
        cases h
        obtain ⟨σ',h1,h2⟩ := fz_ag hA hq hm
        rw [h1]
        simp only [if_pos hk]
        exact ⟨σ',rfl,h2⟩
      · cases h
  | io =>
    simp only [lendOne] at h ⊢
    simp only [accOne] at hm
    split at h
    · rename_i o lo n
      have hR : R o := (hm.left o .w (mem_accAll.2 ⟨by simp [V.mention],rfl⟩)).1
      rw [hA o hR]
      split at h
      · cases h
      · rename_i ob ho
        split at h
        · rename_i hc
          cases h
          simp only [if_pos hc]
          exact ⟨_,rfl,hA.del o⟩
        · cases h
    · rename_i o i fs
      have hR : R o := (hm.left o .w (mem_accAll.2 ⟨by simp [V.mention],rfl⟩)).1
      rw [hA o hR]
      cases ho : geta s.obs o with
      | none => rw [ho] at h;cases h
      | some ob =>
        rw [ho] at h
        simp only at h ⊢
        split at h
        · rename_i x hx
          split at h
          · rename_i hc
            split at h
            · cases h
            · rename_i q hq
              cases h
              have hF : May R W X x.accF := by
                intro k a ha
                refine hm.right k a (List.mem_flatMap.2 ⟨o,by simp [V.mention],?_⟩)
                simp only [boxF,ho,Option.elim_some,if_pos hc.1,hx]
                simp only [V.accFL,List.append_nil]
                exact ha
              obtain ⟨σ',k1,k2⟩ := fzI_ag (hA.del o) hq hF
              simp only [if_pos hc,k1]
              exact ⟨σ',rfl,k2⟩
          · cases h
        · cases h
    · cases h
theorem lendV_mv : ∀ {vs : List V} {ms : List Md} {s : St} {r : List V × St × List (Nat × Ob)},lendV ms vs s = some r→May R W X (accLend ms vs s)→LMv W X s r.2.1 r.2.2
  | [],ms,s,r,h,m => by simp only [lendV,Option.some.injEq] at h;subst h;exact (Mv.refl W X s).lmv
  | v :: q,ms,s,r,h,m => by
    simp only [lendV] at h
    simp only [accLend] at m
    split at h
    · cases h
    · rename_i a ha
      split at h
      · cases h
      · rename_i b hb
        cases h
        rw [ha] at m
        have h1 := lendOne_mv ha m.left
        have h2 := lendV_mv hb m.right
        refine ⟨h2.env.trans h1.env,fun o ho => (h2.w o ho).trans (h1.w o ho),fun o ho hn => ?_,fun p hp => ?_⟩
        · exact (h1.x o ho (fun p hp => hn p (List.mem_append_left _ hp))).trans (h2.x o ho (fun p hp => hn p (List.mem_append_right _ hp)))
        · rcases List.mem_append.1 hp with hp | hp
          · exact h1.b p hp
          · obtain ⟨k1,k2⟩ := h2.b p hp
            refine ⟨k1,?_⟩
            rcases k2 with k2 | k2
            · exact .inl k2
            · by_cases hX : X p.1
              · exact .inl hX
              · right
                by_cases hq : ∃ p'∈a.2.2,p'.1 = p.1
                · obtain ⟨p',hp',e⟩ := hq
                  have hg : geta a.2.1.obs p.1 = none∨Alk (geta s.obs p.1) (geta a.2.1.obs p.1) := by
                    rw [← e]
                    exact lent_gone ha hp'
                  rcases hg with hg | hg
                  · rw [hg] at k2;exact k2.elim
                  · exact hg.trans k2
                · exact (h1.x p.1 hX (fun p' hp' e => hq ⟨p',hp',e⟩)).trans k2
where
  lent_gone {s : St} {m : Md} {v : V} {a : V × St × List (Nat × Ob)} {p : Nat × Ob} (h : lendOne s m v = some a) (hp : p∈a.2.2) : geta a.2.1.obs p.1 = none∨Alk (geta s.obs p.1) (geta a.2.1.obs p.1) := by
    have none_fzI : ∀ {v : V} {s : St} {r : V × St} {o : Nat},v.fzI s = some r→geta s.obs o = none→geta r.2.obs o = none := by
      intro v s r o hv ho
      exact fzI_absent hv ho
    cases m with
    | snap =>
      simp only [lendOne] at h
      split at h
      · cases h
      · simp only [Option.some.injEq] at h;subst h;cases hp
    | take =>
      simp only [lendOne] at h
      split at h
      · cases h
      · split at h
        · cases h;cases hp
        · cases h
    | io =>
      simp only [lendOne] at h
      split at h
      · split at h
        · cases h
        · split at h
          · cases h
            simp only [List.mem_singleton] at hp
            subst hp
            exact .inl geta_dela_self
          · cases h
      · split at h
        · cases h
        · split at h
          · split at h
            · split at h
              · cases h
              · rename_i q hq
                cases h
                simp only [List.mem_singleton] at hp
                subst hp
                exact .inl (none_fzI hq geta_dela_self)
            · cases h
          · cases h
      · cases h
theorem lendV_ag : ∀ {vs : List V} {ms : List Md} {s σ : St} {r : List V × St × List (Nat × Ob)},Ag R s σ→lendV ms vs s = some r→May R W X (accLend ms vs s)→∃ σ',lendV ms vs σ = some (r.1,σ',r.2.2)∧Ag R r.2.1 σ'
  | [],ms,s,σ,r,hA,h,m => by simp only [lendV,Option.some.injEq] at h ⊢;subst h;exact ⟨σ,rfl,hA⟩
  | v :: q,ms,s,σ,r,hA,h,m => by
    simp only [lendV] at h ⊢
    simp only [accLend] at m
    split at h
    · cases h
    · rename_i a ha
      split at h
      · cases h
      · rename_i b hb
        cases h
        rw [ha] at m
        obtain ⟨σ1,h1,h2⟩ := lendOne_ag hA ha m.left
        obtain ⟨σ2,h3,h4⟩ := lendV_ag h2 hb m.right
        rw [h1]
        simp only [h3]
        exact ⟨σ2,rfl,h4⟩
theorem lend_len : ∀ {vs : List V} {ms : List Md} {s : St} {r : List V × St × List (Nat × Ob)},lendV ms vs s = some r→r.1.length = vs.length∧∀ (i : Nat) v w,r.1[i]? = some v→vs[i]? = some w→ms.getD i .snap = .snap→v = w
  | [],ms,s,r,h => by simp only [lendV,Option.some.injEq] at h;subst h;exact ⟨rfl,fun i v w e => by simp at e⟩
  | v :: q,ms,s,r,h => by
    simp only [lendV] at h
    split at h
    · cases h
    · rename_i a ha
      split at h
      · cases h
      · rename_i b hb
        cases h
        obtain ⟨h1,h2⟩ := lend_len hb
        refine ⟨by simp [h1],fun i x y e1 e2 hm => ?_⟩
        cases i with
        | zero =>
          simp only [List.getElem?_cons_zero,Option.some.injEq] at e1 e2
          subst e1;subst e2
          have hm' : ms.headD .snap = .snap := by cases ms <;> first | rfl | exact hm
          exact lend_snap ha hm'
        | succ i =>
          refine h2 i x y e1 e2 ?_
          cases ms with
          | nil => simp
          | cons c d => simpa using hm
theorem backOne_mv {o : Nat} {ob : Ob} {v : V} (h : backOne o ob v s = some s') : ∃ ob',s' = { s with obs := puta s.obs o ob' }∧Alk (some ob) (some ob') := by
  unfold backOne at h
  split at h
  · split at h
    · rename_i ha
      cases h
      exact ⟨_,rfl,rfl,rfl,ha⟩
    · cases h
  · split at h
    · split at h
      · rename_i ha
        cases h
        exact ⟨_,rfl,rfl,rfl,ha⟩
      · cases h
    · cases h
theorem backs_mv : ∀ {bs : List (Nat × Ob)} {vs : List V} {s s' : St},backs bs vs s = some s'→(∀ p∈bs,W p.1)→s'.env = s.env∧(∀ o,¬ W o→geta s'.obs o = geta s.obs o)∧(∀ o,(∀ p∈bs,p.1 ≠ o)→geta s'.obs o = geta s.obs o)∧∀ o,(∃ p∈bs,p.1 = o)→∃ p∈bs,p.1 = o∧Alk (some p.2) (geta s'.obs o)
  | [],vs,s,s',h,hw => by
    simp only [backs,Option.some.injEq] at h
    subst h
    exact ⟨rfl,fun _ _ => rfl,fun _ _ => rfl,fun o ⟨p,hp,_⟩ => by cases hp⟩
  | p :: r,vs,s,s',h,hw => by
    simp only [backs] at h
    split at h
    · cases h
    · rename_i v q
      split at h
      · cases h
      · rename_i s1 h1
        obtain ⟨ob',rfl,hal⟩ := backOne_mv h1
        obtain ⟨k1,k2,k3,k4⟩ := backs_mv h (fun p hp => hw p (List.mem_cons_of_mem _ hp))
        refine ⟨k1,fun o ho => ?_,fun o ho => ?_,fun o ho => ?_⟩
        · rw [k2 o ho]
          have e : o ≠ p.1 := fun e => ho (e ▸ hw p (List.mem_cons_self ..))
          simp only [geta_puta_ne e]
        · rw [k3 o (fun q hq => ho q (List.mem_cons_of_mem _ hq))]
          have e : o ≠ p.1 := fun e => ho p (List.mem_cons_self ..) e.symm
          simp only [geta_puta_ne e]
        · by_cases hr : ∃ q∈r,q.1 = o
          · obtain ⟨q',hq,e,ha⟩ := k4 o hr
            exact ⟨q',List.mem_cons_of_mem _ hq,e,ha⟩
          · obtain ⟨q',hq,e⟩ := ho
            rcases List.mem_cons.1 hq with rfl | hq
            · subst e
              refine ⟨q',List.mem_cons_self ..,rfl,?_⟩
              rw [k3 q'.1 (fun q hq e => hr ⟨q,hq,e⟩)]
              simp only [geta_puta_self];exact hal
            · exact absurd ⟨q',hq,e⟩ hr
theorem backOne_ag (hA : Ag R s σ) {o : Nat} {ob : Ob} {v : V} (h : backOne o ob v s = some s') : ∃ σ',backOne o ob v σ = some σ'∧Ag R s' σ' := by
  unfold backOne at h ⊢
  split at h
  · rename_i hb
    rw [if_pos hb]
    split at h
    · rename_i ha
      cases h
      rw [if_pos ha]
      exact ⟨_,rfl,hA.put o _⟩
    · cases h
  · rename_i hb
    rw [if_neg hb]
    split at h
    · split at h
      · rename_i ha
        cases h
        simp only [if_pos ha]
        exact ⟨_,rfl,hA.put o _⟩
      · cases h
    · cases h
theorem backs_ag : ∀ {bs : List (Nat × Ob)} {vs : List V} {s σ s' : St},Ag R s σ→backs bs vs s = some s'→∃ σ',backs bs vs σ = some σ'∧Ag R s' σ'
  | [],vs,s,σ,s',hA,h => by simp only [backs,Option.some.injEq] at h ⊢;subst h;exact ⟨σ,rfl,hA⟩
  | p :: r,vs,s,σ,s',hA,h => by
    simp only [backs] at h ⊢
    split at h
    · cases h
    · rename_i v q
      split at h
      · cases h
      · rename_i s1 h1
        obtain ⟨σ1,k1,k2⟩ := backOne_ag hA h1
        simp only [k1]
        exact backs_ag k2 h
mutual
theorem thaw_keys : ∀ {v : V} {id o : Nat},(geta (v.thaw id).2.1 o).isSome = true→o∈(v.thaw id).1.mention
  | .lst own sz xs,id,o,h => by
    cases own
    · simp [V.thaw,geta] at h
    · simp only [V.thaw,geta] at h ⊢
      split at h
      · rename_i e;subst e;simp [V.mention]
      · cases h
  | .agg xs,id,o,h => by simp only [V.thaw,V.mention] at h ⊢;exact thawL_keys h
  | .tup xs,id,o,h => by simp only [V.thaw,V.mention] at h ⊢;exact thawL_keys h
  | .int ..,id,o,h => by simp [V.thaw,geta] at h
  | .bool _,id,o,h => by simp [V.thaw,geta] at h
  | .str _,id,o,h => by simp [V.thaw,geta] at h
  | .emp _,id,o,h => by simp [V.thaw,geta] at h
  | .ref ..,id,o,h => by simp [V.thaw,geta] at h
  | .plc ..,id,o,h => by simp [V.thaw,geta] at h
  | .ptr ..,id,o,h => by simp [V.thaw,geta] at h
  | .vptr _,id,o,h => by simp [V.thaw,geta] at h
  | .clo ..,id,o,h => by simp [V.thaw,geta] at h
  | .und,id,o,h => by simp [V.thaw,geta] at h
  | .iol ..,id,o,h => by simp [V.thaw,geta] at h
  | .iop _,id,o,h => by simp [V.thaw,geta] at h
theorem thawL_keys : ∀ {xs : List V} {id o : Nat},(geta (V.thawL id xs).2.1 o).isSome = true→o∈V.mentionL (V.thawL id xs).1
  | [],id,o,h => by simp [V.thawL,geta] at h
  | x :: r,id,o,h => by
    simp only [V.thawL,geta_append] at h
    simp only [V.thawL,V.mentionL,List.mem_append]
    cases ha : geta (x.thaw id).2.1 o with
    | some y => exact .inl (thaw_keys (by rw [ha];rfl))
    | none =>
      rw [ha] at h
      simp only [Option.none_or] at h
      exact .inr (thawL_keys h)
end
theorem boxF_ag (hA : Ag R s σ) {o : Nat} (h : R o) : boxF σ.obs o = boxF s.obs o := by unfold boxF;rw [hA o h]
theorem accOne_ag (hA : Ag R s σ) {m : Md} {v : V} (h : May R W X (accOne s m v)) : May R W X (accOne σ m v) := by
  cases m with
  | snap => exact h
  | take => exact h
  | io =>
    simp only [accOne] at h ⊢
    intro o a ha
    rcases List.mem_append.1 ha with ha | ha
    · exact h o a (List.mem_append_left _ ha)
    · obtain ⟨q,hq,ha⟩ := List.mem_flatMap.1 ha
      have hR : R q := (h.left q .w (mem_accAll.2 ⟨hq,rfl⟩)).1
      rw [boxF_ag hA hR] at ha
      exact h o a (List.mem_append_right _ (List.mem_flatMap.2 ⟨q,hq,ha⟩))
theorem May.append {A B : List (Nat × Acc)} (h : May R W X A) (k : May R W X B) : May R W X (A ++ B) := fun o a ha => by
  rcases List.mem_append.1 ha with ha | ha
  · exact h o a ha
  · exact k o a ha
theorem accLend_ag : ∀ {vs : List V} {ms : List Md} {s σ : St} {r : List V × St × List (Nat × Ob)},Ag R s σ→lendV ms vs s = some r→May R W X (accLend ms vs s)→May R W X (accLend ms vs σ)
  | [],ms,s,σ,r,hA,h,m => m
  | v :: q,ms,s,σ,r,hA,h,m => by
    simp only [lendV] at h
    simp only [accLend] at m ⊢
    split at h
    · cases h
    · rename_i a ha
      split at h
      · cases h
      · rename_i b hb
        cases h
        rw [ha] at m
        obtain ⟨σ1,h1,h2⟩ := lendOne_ag hA ha m.left
        rw [h1]
        exact (accOne_ag hA m.left).append (accLend_ag h2 hb m.right)
theorem callV_mv {call : Call} {cfg : Cfg} {id : Nat} {f : FuncId} {vs : List V} {v : V} {s' : St} (h : callV call cfg s id f vs = some (v,s')) (m : May R W X (accAll .x v.mention ++ accLend (cfg.md f) vs s)) : Mv W X s s' := by
  unfold callV at h
  split at h
  · cases h
  · rename_i a ha
    split at h
    · cases h
    · rename_i asv has
      split at h
      · cases h
      · rename_i r hr
        split at h
        · split at h
          · cases h
          · rename_i s2 hb
            cases h
            have m1 := m.left
            have L := lendV_mv ha m.right
            obtain ⟨k1,k2,k3,k4⟩ := backs_mv (W:=W) hb (fun p hp => (L.b p hp).1)
            have hk : ∀ o,(geta (r.1.thaw id).2.1 o).isSome = true→W o∧X o := fun o ho => (m1 o .x (mem_accAll.2 ⟨thaw_keys ho,rfl⟩)).2
            have hg : ∀ o,(¬ W o∨¬ X o)→geta ((r.1.thaw id).2.1 ++ s2.obs) o = geta s2.obs o := by
              intro o ho
              rw [geta_append]
              cases hx : geta (r.1.thaw id).2.1 o with
              | none => rfl
              | some y =>
                have := hk o (by rw [hx];rfl)
                rcases ho with ho | ho
                · exact absurd this.1 ho
                · exact absurd this.2 ho
            refine ⟨k1.trans L.env,fun o ho => ?_,fun o ho => ?_⟩
            · exact (hg o (.inl ho)).trans ((k2 o ho).trans (L.w o ho))
            · have hgo : geta ((r.1.thaw id).2.1 ++ s2.obs) o = geta s2.obs o := hg o (.inr ho)
              show Alk (geta s.obs o) (geta ((r.1.thaw id).2.1 ++ s2.obs) o)
              rw [hgo]
              by_cases hl : ∃ p∈a.2.2,p.1 = o
              · obtain ⟨p,hp,e,hal⟩ := k4 o hl
                subst e
                exact ((L.b p hp).2.resolve_left ho).trans hal
              · rw [k3 o (fun p hp e => hl ⟨p,hp,e⟩)]
                exact L.x o ho (fun p hp e => hl ⟨p,hp,e⟩)
        · cases h
theorem callV_ag (hA : Ag R s σ) {call : Call} {cfg : Cfg} {id : Nat} {f : FuncId} {vs : List V} {v : V} {s' : St} (h : callV call cfg s id f vs = some (v,s')) (m : May R W X (accAll .x v.mention ++ accArgs (cfg.md f) vs s)) : ∃ σ',callV call cfg σ id f vs = some (v,σ')∧Ag R s' σ'∧Mv W X σ σ' := by
  suffices hs : ∃ σ',callV call cfg σ id f vs = some (v,σ')∧Ag R s' σ' by
    obtain ⟨σ',h1,h2⟩ := hs
    refine ⟨σ',h1,h2,callV_mv (R:=R) h1 ?_⟩
    have m2 := m.right
    unfold accArgs at m2
    obtain ⟨r,hr⟩ : ∃ r,lendV (cfg.md f) vs s = some r := by
      unfold callV at h
      split at h
      · cases h
      · rename_i a ha;exact ⟨a,ha⟩
    exact m.left.append (accLend_ag hA hr m2.left)
  unfold callV at h ⊢
  split at h
  · cases h
  · rename_i a ha
    have m2 := m.right
    unfold accArgs at m2
    obtain ⟨σ1,h1,h2⟩ := lendV_ag hA ha m2.left
    rw [h1]
    simp only
    have m3 := m2.right
    rw [ha] at m3
    simp only at m3
    obtain ⟨hl,hs⟩ := lend_len ha
    split at h
    · cases h
    · rename_i asv has
      rw [snapsV_rd h2 has (ws:=vs) (fun _ _ => trivial) hs hl m3]
      simp only
      split at h
      · cases h
      · rename_i r hr
        split at h
        · rename_i hc
          split at h
          · cases h
          · rename_i s2 hb
            cases h
            obtain ⟨σ2,h3,h4⟩ := backs_ag h2 hb
            simp only [hr,if_pos hc,h3]
            refine ⟨_,rfl,fun o ho => ?_⟩
            simp only [geta_append]
            rw [h4 o ho]
        · cases h
end
section
variable {R W X : Nat→Prop} {s s' σ : St}
theorem storeV_mv {z v : V} {o i : Nat} {fs : List Nat} (h : storeV s z (.ptr o i fs) v = some s') (hW : W o) (m : May R W X v.accF) : Mv W X s s' := by
  simp only [storeV] at h
  split at h
  · cases h
  · rename_i ob ho
    split at h
    · cases h
    · rename_i old hg
      split at h
      · rename_i hal
        split at h
        · split at h
          · cases h
          · obtain ⟨ob',hs,e⟩ := mp_some_inv h
            cases e
            exact mv_put hW (.inr (by rw [ho];exact set_alk hg hal.1 hs))
        · split at h
          · cases h
          · rename_i r hr
            split at h
            · cases h
            · rename_i ob2 ho2
              split at h
              · cases h
              · rename_i old2 hg2
                split at h
                · rename_i hal2
                  obtain ⟨ob',hs,e⟩ := mp_some_inv h
                  cases e
                  exact (fz_mv hr m).trans (mv_put hW (.inr (by rw [ho2];exact set_alk hg2 hal2 hs)))
                · cases h
      · cases h
theorem storeV_ag (hA : Ag R s σ) {z v : V} {o i : Nat} {fs : List Nat} (h : storeV s z (.ptr o i fs) v = some s') (hR : R o) (m : May R W X v.accF) : ∃ σ',storeV σ z (.ptr o i fs) v = some σ'∧Ag R s' σ' := by
  simp only [storeV] at h ⊢
  rw [hA o hR]
  cases ho : geta s.obs o with
  | none => rw [ho] at h;cases h
  | some ob =>
    rw [ho] at h
    simp only at h ⊢
    cases hg : ob.get i fs with
    | none => rw [hg] at h;cases h
    | some old =>
      rw [hg] at h
      simp only at h ⊢
      split at h
      · rename_i hal
        rw [if_pos hal]
        split at h
        · rename_i hb
          rw [if_pos hb]
          split at h
          · cases h
          · rename_i ht
            rw [if_neg ht]
            obtain ⟨ob',hs,e⟩ := mp_some_inv h
            cases e
            rw [hs]
            exact ⟨_,rfl,hA.put o _⟩
        · rename_i hb
          rw [if_neg hb]
          split at h
          · cases h
          · rename_i r hr
            obtain ⟨σ1,k1,k2⟩ := fz_ag hA hr m
            rw [k1]
            simp only
            rw [k2 o hR]
            split at h
            · cases h
            · rename_i ob2 ho2
              split at h
              · cases h
              · rename_i old2 hg2
                split at h
                · rename_i hal2
                  obtain ⟨ob',hs,e⟩ := mp_some_inv h
                  cases e
                  simp only [hg2,if_pos hal2,hs,mp_some]
                  exact ⟨_,rfl,k2.put o _⟩
                · cases h
      · cases h
theorem loadV_rd (hA : Ag R s σ) {z x v : V} (h : loadV s z x = some v) (m : ∀ o∈x.mention,R o) : loadV σ z x = some v := by
  unfold loadV at h ⊢
  split at h
  · exact h
  · rename_i o i fs
    rw [hA o (m o (by simp [V.mention]))]
    exact h
  · cases h
theorem alk_get {ob ob' : Ob} (h : Alk (some ob) (some ob')) {i : Nat} {fs : List Nat} {x : V} (hg : ob.get i fs = some x) : ∃ x',ob'.get i fs = some x'∧x.alike x' = true := by
  unfold Ob.get at hg ⊢
  cases hx : ob.xs[i]? with
  | none => rw [hx] at hg;cases hg
  | some y =>
    rw [hx] at hg
    simp only at hg
    obtain ⟨y',h1,h2,_⟩ := alikeL_at (alikeL_symm h.2.2) hx
    rw [h1]
    obtain ⟨x',k1,_,k3⟩ := alike_off h2 hg
    exact ⟨x',k1,alike_symm k3⟩
theorem offs_alike {xs ys : List V} (h : V.alikeL xs ys = true) : ∀ i,offs xs i = offs ys i := by
  intro i
  induction xs generalizing ys i with
  | nil => simp only [V.alikeL,List.isEmpty_iff] at h;subst h;rfl
  | cons x r ih =>
    cases ys with
    | nil => simp [V.alikeL] at h
    | cons y q =>
      simp only [V.alikeL,Bool.and_eq_true] at h
      cases i with
      | zero => rfl
      | succ i => simp only [offs];rw [alike_cells h.1,ih h.2]
theorem alikeL_len : ∀ {xs ys : List V},V.alikeL xs ys = true→xs.length = ys.length
  | [],ys,h => by simp only [V.alikeL,List.isEmpty_iff] at h;subst h;rfl
  | x :: r,[],h => by simp [V.alikeL] at h
  | x :: r,y :: q,h => by
    simp only [V.alikeL,Bool.and_eq_true] at h
    simp [alikeL_len h.2]
theorem fieldOk_alike {cfg : Cfg} {t : TypeId} {x y : V} {i : Nat} (h : x.alike y = true) (hf : fieldOk cfg t x i = true) : fieldOk cfg t y i = true := by
  unfold fieldOk at hf
  split at hf
  · rename_i fs xs hfs
    cases y with
    | agg ys =>
      simp only [V.alike,V.aggOf] at h
      unfold fieldOk
      rw [hfs]
      simp only [Bool.and_eq_true,decide_eq_true_eq] at hf ⊢
      refine ⟨hf.1.trans (alikeL_len h),?_⟩
      have hf2 := hf.2
      split at hf2
      · rename_i f x0 e1 e2
        obtain ⟨y0,k1,k2,k3⟩ := alikeL_at (alikeL_symm h) e2
        rw [e1,k1]
        simp only
        split at hf2
        · rename_i z hz
          simp only [Bool.and_eq_true,decide_eq_true_eq] at hf2 ⊢
          exact ⟨hf2.1.trans (offs_alike h i),alike_trans hf2.2 (alike_symm k2)⟩
        · cases hf2
      · cases hf2
    | _ => simp [V.alike,V.aggOf] at h
  · cases hf
theorem alk_some {a b : Option Ob} {x : Ob} (h : Alk a b) (e : a = some x) : ∃ y,b = some y∧Alk (some x) (some y) := by
  subst e
  cases b with
  | none => exact h.elim
  | some y => exact ⟨y,rfl,h⟩
theorem fieldAddr_rd {cfg : Cfg} {t : TypeId} {i : Nat} {x v : V} (h : fieldAddrV cfg s t i x = some v) (hM : ∀ o∈x.mention,Alk (geta s.obs o) (geta σ.obs o)) : fieldAddrV cfg σ t i x = some v := by
  unfold fieldAddrV at h ⊢
  split at h
  · exact h
  · rename_i o k fs
    split at h
    · cases h
    · rename_i ob ho
      obtain ⟨ob',ho',hal⟩ := alk_some (hM o (by simp [V.mention])) ho
      rw [ho']
      simp only
      split at h
      · cases h
      · rename_i y hy
        obtain ⟨y',h1,h2⟩ := alk_get hal hy
        rw [h1]
        simp only
        split at h
        · rename_i hf
          rw [if_pos (fieldOk_alike h2 hf)]
          exact h
        · cases h
  · cases h
theorem rowAddr_rd {sz o lo n i : Nat} {v : V} (h : rowAddr s sz o lo n i = some v) (hM : Alk (geta s.obs o) (geta σ.obs o)) : rowAddr σ sz o lo n i = some v := by
  unfold rowAddr at h ⊢
  split at h
  · rename_i hi
    rw [if_pos hi]
    split at h
    · cases h
    · rename_i ob ho
      obtain ⟨ob',ho',hal⟩ := alk_some hM ho
      rw [ho']
      simp only
      split at h
      · cases h
      · rename_i y hy
        obtain ⟨y',h1,h2,_⟩ := alikeL_at (alikeL_symm hal.2.2) hy
        rw [h1]
        simp only
        split at h
        · rename_i hc
          rw [if_pos ⟨hal.1.symm.trans hc.1,(alike_cells h2).trans hc.2⟩]
          exact h
        · cases h
  · cases h
theorem indexAddr_rd {cfg : Cfg} {t : TypeId} {i : Int} {x v : V} (h : indexAddrV cfg s t x i = some v) (hM : ∀ o∈x.mention,Alk (geta s.obs o) (geta σ.obs o)) : indexAddrV cfg σ t x i = some v := by
  unfold indexAddrV at h ⊢
  split at h
  · cases h
  · rename_i z hz
    split at h
    · rename_i h0
      simp only [if_pos h0]
      split at h
      · exact h
      · rename_i o lo n
        exact rowAddr_rd h (hM o (by simp [V.mention]))
      · cases h
    · cases h
theorem cutV_rd {k : Nat} {x v : V} {a b : Int} (h : cutV s k x a b = some v) (hM : ∀ o∈x.mention,Alk (geta s.obs o) (geta σ.obs o)) : cutV σ k x a b = some v := by
  unfold cutV at h ⊢
  split at h
  · exact h
  · exact h
  · exact h
  · exact h
  · rename_i o l n
    split at h
    · rename_i h1
      rw [if_pos h1];exact h
    · rename_i h1
      rw [if_neg h1]
      split at h
      · rename_i h2
        rw [if_pos h2];exact h
      · rename_i h2
        rw [if_neg h2]
        split at h
        · cases h
        · rename_i ob ho
          obtain ⟨ob',ho',hal⟩ := alk_some (hM o (by simp [V.mention])) ho
          rw [ho']
          simp only
          rw [← hal.2.1]
          exact h
  · cases h
theorem sliceV_rd {cfg : Cfg} {t : TypeId} {x v : V} {lo hi : Option V} (h : sliceV cfg s t x lo hi = some v) (hM : ∀ o∈x.mention,Alk (geta s.obs o) (geta σ.obs o)) : sliceV cfg σ t x lo hi = some v := by
  unfold sliceV at h ⊢
  split at h
  · cases h
  · split at h
    · cases h
    · split at h
      · cases h
      · split at h
        · cases h
        · split at h
          · rename_i hc
            simp only [if_pos hc]
            exact cutV_rd h hM
          · cases h
theorem opV_env {e e' : List (Nat × V)} {x : Operand} (h : ∀ t∈tmpsOf [x],geta e' t = geta e t) : opV e' x = opV e x := by
  unfold opV
  cases x with
  | tmp t => simp only;rw [h t (by simp [tmpsOf])]
  | _ => rfl
theorem tmpsOf_cons {x : Operand} {r : List Operand} : tmpsOf (x :: r) = tmpsOf [x] ++ tmpsOf r := by
  cases x <;> simp [tmpsOf]
theorem opsV_env {e e' : List (Nat × V)} : ∀ {xs : List Operand},(∀ t∈tmpsOf xs,geta e' t = geta e t)→opsV e' xs = opsV e xs
  | [],h => rfl
  | x :: r,h => by
    rw [tmpsOf_cons] at h
    simp only [opsV]
    rw [opV_env (fun t ht => h t (List.mem_append_left _ ht)),opsV_env (fun t ht => h t (List.mem_append_right _ ht))]
theorem partsV_env {e e' : List (Nat × V)} : ∀ {ps : List (Nat × Operand)},(∀ t∈tmpsOf (ps.map (·.2)),geta e' t = geta e t)→partsV e' ps = partsV e ps
  | [],h => rfl
  | (i,x) :: r,h => by
    simp only [List.map_cons] at h
    rw [tmpsOf_cons] at h
    simp only [partsV]
    rw [opV_env (fun t ht => h t (List.mem_append_left _ ht)),partsV_env (fun t ht => h t (List.mem_append_right _ ht))]
theorem optV_env {e e' : List (Nat × V)} {x : Option Operand} (h : ∀ t∈tmpsOf x.toList,geta e' t = geta e t) : optV e' x = optV e x := by
  cases x with
  | none => rfl
  | some x => simp only [optV];rw [opV_env h]
theorem opT_env {cfg : Cfg} {ty : TypeId} {e e' : List (Nat × V)} {x : Operand} (h : ∀ t∈tmpsOf [x],geta e' t = geta e t) : opT cfg e' ty x = opT cfg e ty x := by
  unfold opT
  split
  · rfl
  · rfl
  · exact opV_env h
theorem opsV_mem {e : List (Nat × V)} : ∀ {xs : List Operand} {vs : List V},opsV e xs = some vs→∀ (x : Operand) (v : V),x∈xs→opV e x = some v→v∈vs
  | [],vs,h,x,v,hx,hv => by cases hx
  | y :: r,vs,h,x,v,hx,hv => by
    simp only [opsV] at h
    split at h
    · cases h
    · rename_i a ha
      obtain ⟨l,hl,e⟩ := mp_some_inv h
      subst e
      rcases List.mem_cons.1 hx with rfl | hx
      · rw [hv] at ha;cases ha;exact List.mem_cons_self ..
      · exact List.mem_cons_of_mem _ (opsV_mem hl x v hx hv)
mutual
theorem accM_mem : ∀ {v : V} {o : Nat},o∈v.mention→(o,Acc.m)∈v.accM∨(o,Acc.r)∈v.accM
  | .agg xs,o,h => by simp only [V.mention,V.accM] at h ⊢;exact accML_mem h
  | .tup xs,o,h => by simp only [V.mention,V.accM] at h ⊢;exact accML_mem h
  | .clo f cs,o,h => by simp only [V.mention,V.accM] at h ⊢;exact accML_mem h
  | .ref k lo n,o,h => by simp only [V.mention,List.mem_singleton] at h;subst h;simp [V.accM]
  | .plc k i fs ver n,o,h => by simp only [V.mention,List.mem_singleton] at h;subst h;simp [V.accM]
  | .ptr k i fs,o,h => by simp only [V.mention,List.mem_singleton] at h;subst h;simp [V.accM]
  | .int ..,o,h => by cases h
  | .bool _,o,h => by cases h
  | .str _,o,h => by cases h
  | .lst ..,o,h => by cases h
  | .emp _,o,h => by cases h
  | .vptr _,o,h => by cases h
  | .und,o,h => by cases h
  | .iol ..,o,h => by cases h
  | .iop _,o,h => by cases h
theorem accML_mem : ∀ {xs : List V} {o : Nat},o∈V.mentionL xs→(o,Acc.m)∈V.accML xs∨(o,Acc.r)∈V.accML xs
  | [],o,h => by cases h
  | x :: r,o,h => by
    simp only [V.mentionL,V.accML,List.mem_append] at h ⊢
    rcases h with h | h
    · rcases accM_mem h with h | h
      · exact .inl (.inl h)
      · exact .inr (.inl h)
    · rcases accML_mem h with h | h
      · exact .inl (.inr h)
      · exact .inr (.inr h)
end
theorem accML_of {xs : List V} {v : V} {o : Nat} (hv : v∈xs) (h : o∈v.mention) : (o,Acc.m)∈V.accML xs∨(o,Acc.r)∈V.accML xs :=
  accML_mem (mem_mentionL.2 ⟨v,hv,h⟩)
structure Local (R W X : Nat→Prop) (call : Call) (cfg : Cfg) (id base : Nat) (s : St) (ty : TypeId) (op : Op) (v : V) (s' : St) : Prop where
  mv : Mv W X s s'
  ag : ∀ σ,Ag R s σ→(∀ t∈tmpsOf op.operands.toList,geta σ.env t = geta s.env t)→(∀ o,(o,Acc.m)∈accE cfg id base s v op→Alk (geta s.obs o) (geta σ.obs o)) →
    ∃ σ',opE call cfg id base σ ty op = some (v,σ')∧Ag R s' σ'∧Mv W X σ σ'
theorem local_pure {call : Call} {cfg : Cfg} {id base : Nat} {ty : TypeId} {op : Op} {v : V}
    (h : ∀ σ,Ag R s σ→(∀ t∈tmpsOf op.operands.toList,geta σ.env t = geta s.env t)→(∀ o,(o,Acc.m)∈accE cfg id base s v op→Alk (geta s.obs o) (geta σ.obs o))→opE call cfg id base σ ty op = some (v,σ)) : Local R W X call cfg id base s ty op v s :=
  ⟨Mv.refl ..,fun σ hA he hM => ⟨σ,h σ hA he hM,hA,Mv.refl ..⟩⟩
theorem mv_new {id : Nat} {ob : Ob} (hW : W id) (hX : X id) : Mv W X s (s.new id ob) := mv_put hW (.inl hX)
theorem ag_new (hA : Ag R s σ) {id : Nat} {ob : Ob} : Ag R (s.new id ob) (σ.new id ob) := hA.put id ob
theorem opE_local {call : Call} {cfg : Cfg} {id base : Nat} {ty : TypeId} {op : Op} {v : V} (hI : ∀ f vs s id,call.i f vs s id = none) (h : opE call cfg id base s ty op = some (v,s')) (m : May R W X (accE cfg id base s v op)) : Local R W X call cfg id base s ty op v s' := by
  unfold opE at h
  split at h
  case h_1 x =>
    obtain ⟨v1,h1,e⟩ := mp_some_inv h;cases e
    refine local_pure fun σ hA he hM => ?_
    simp only [opE,opT_env (e:=s.env) he,h1,mp_some]
  case h_2 x =>
    obtain ⟨v1,h1,e⟩ := mp_some_inv h;cases e
    refine local_pure fun σ hA he hM => ?_
    simp only [opE,opT_env (e:=s.env) he,h1,mp_some]
  case h_3 c x y =>
    split at h
    · cases h
    rename_i vc h1
    split at h
    · obtain ⟨v1,h2,e⟩ := mp_some_inv h;cases e
      refine local_pure fun σ hA he hM => ?_
      have he' : ∀ t∈tmpsOf [c,x,y],geta σ.env t = geta s.env t := he
      have q1 := opV_env (x:=c) (fun t ht => he' t (by rw [tmpsOf_cons];exact List.mem_append_left _ ht))
      have q2 := opV_env (x:=x) (fun t ht => he' t (by rw [tmpsOf_cons,tmpsOf_cons (x:=x)];exact List.mem_append_right _ (List.mem_append_left _ ht)))
      have q3 := opV_env (x:=y) (fun t ht => he' t (by rw [tmpsOf_cons,tmpsOf_cons (x:=x)];exact List.mem_append_right _ (List.mem_append_right _ ht)))
      simp only [opE,q1,q2,q3,h1,h2,mp_some]
    · cases h
  case h_4 t =>
    obtain ⟨z,h1,e⟩ := mp_some_inv h;cases e
    obtain ⟨_,hW,hX⟩ := m id .x (by simp [accE])
    refine ⟨mv_new hW hX,fun σ hA he hM => ⟨_,by simp only [opE,h1,mp_some],ag_new hA,mv_new hW hX⟩⟩
  case h_5 t x =>
    split at h
    · cases h
    rename_i vx h1
    split at h
    · cases h
    rename_i z h2
    split at h
    · rename_i hc;cases h
      obtain ⟨_,hW,hX⟩ := m id .x (by simp [accE])
      refine ⟨mv_new hW hX,fun σ hA he hM => ⟨_,?_,ag_new hA,mv_new hW hX⟩⟩
      have q1 := opV_env (x:=x) (e:=s.env) he
      simp only [opE,q1,h1,h2,if_pos hc]
    · cases h
  case h_6 t ps =>
    split at h
    · cases h
    rename_i z h1
    split at h
    · split at h
      · rename_i hfl
        split at h
        · cases h
        rename_i l h2
        obtain ⟨xs,h3,e⟩ := mp_some_inv h;cases e
        refine local_pure fun σ hA he hM => ?_
        have q1 := partsV_env (ps:=ps.toList) (e:=s.env) (by simpa [Op.operands] using he)
        simp only [opE,q1,h1,if_pos hfl,h2,h3,mp_some]
      · cases h
    · cases h
  case h_7 t n ps =>
    split at h
    · cases h
    rename_i z h1
    split at h
    · cases h
    rename_i l h2
    split at h
    · rename_i hc
      obtain ⟨r,h3,e⟩ := mp_some_inv h;cases e
      obtain ⟨_,hW,hX⟩ := m id .x (by simp [accE])
      have mF : May R W X (V.accFL (l.map (·.2))) := fun o a ha => m o a (by simp only [accE,h2,Option.elim_some];exact List.mem_cons_of_mem _ ha)
      refine ⟨(fzL_mv h3 mF).trans (mv_new hW hX),fun σ hA he hM => ?_⟩
      have q1 := partsV_env (ps:=ps.toList) (e:=s.env) (by simpa [Op.operands] using he)
      obtain ⟨σ1,k1,k2⟩ := fzL_ag hA h3 mF
      refine ⟨_,by simp only [opE,q1,h1,h2,if_pos hc,k1,mp_some],ag_new k2,(fzL_mv k1 mF).trans (mv_new hW hX)⟩
    · cases h
  case h_8 t x =>
    split at h
    · cases h
    rename_i z h1
    split at h
    · cases h
    rename_i vx h2
    obtain ⟨y,h3,e⟩ := mp_some_inv h;cases e
    refine local_pure fun σ hA he hM => ?_
    have q1 := opV_env (x:=x) (e:=s.env) he
    have q2 := loadV_rd hA h3 (fun o ho => m o .r (by simp only [accE,h2,Option.elim_some];exact mem_accAll.2 ⟨ho,rfl⟩))
    simp only [opE,q1,h1,h2,q2,mp_some]
  case h_9 t x y =>
    split at h
    · cases h
    rename_i z h1
    split at h
    · cases h
    rename_i vx h2
    split at h
    · cases h
    rename_i vy h3
    obtain ⟨s1,h4,e⟩ := mp_some_inv h;cases e
    have hp : ∃ o i fs,vx = .ptr o i fs := by
      unfold storeV at h4
      split at h4
      · exact ⟨_,_,_,rfl⟩
      · cases h4
    obtain ⟨o,i,fs,rfl⟩ := hp
    simp only [accE,h2,h3,Option.elim_some] at m
    obtain ⟨hR,hW⟩ := m.left o .w (mem_accAll.2 ⟨by simp [V.mention],rfl⟩)
    refine ⟨storeV_mv h4 hW m.right,fun σ hA he hM => ?_⟩
    have he' : ∀ t∈tmpsOf [x,y],geta σ.env t = geta s.env t := he
    have q1 := opV_env (x:=x) (fun t ht => he' t (by rw [tmpsOf_cons];exact List.mem_append_left _ ht))
    have q2 := opV_env (x:=y) (fun t ht => he' t (by rw [tmpsOf_cons];exact List.mem_append_right _ ht))
    obtain ⟨σ1,k1,k2⟩ := storeV_ag hA h4 hR m.right
    exact ⟨σ1,by simp only [opE,h1,q1,q2,h2,h3,k1,mp_some],k2,storeV_mv k1 hW m.right⟩
  case h_10 x =>
    split at h
    · cases h
    rename_i vx h1
    have hs : s' = s := by
      split at h
      · cases h;rfl
      · cases h;rfl
      · cases h
    subst hs
    refine local_pure fun σ hA he hM => ?_
    have q1 := opV_env (x:=x) (e:=s'.env) he
    simp only [opE,q1,h1]
    split at h
    · cases h;rfl
    · cases h;rfl
    · cases h
  case h_11 op t x y t2 =>
    split at h
    · cases h
    rename_i vx h1
    have hs : s' = s := by
      split at h
      · obtain ⟨_,_,e⟩ := mp_some_inv h;cases e;rfl
      · split at h
        · cases h
        · split at h
          · obtain ⟨_,_,e⟩ := mp_some_inv h;cases e;rfl
          · obtain ⟨_,_,e⟩ := mp_some_inv h;cases e;rfl
    subst hs
    refine local_pure fun σ hA he hM => ?_
    have he' : ∀ t∈tmpsOf [x,y],geta σ.env t = geta s'.env t := he
    have q1 := opV_env (x:=x) (fun t ht => he' t (by rw [tmpsOf_cons];exact List.mem_append_left _ ht))
    have q2 := opV_env (x:=y) (fun t ht => he' t (by rw [tmpsOf_cons];exact List.mem_append_right _ ht))
    simp only [opE,q1,q2,h1]
    split at h
    · rename_i hn
      rw [if_pos hn]
      obtain ⟨v1,k1,e⟩ := mp_some_inv h;cases e
      rw [k1];rfl
    · rename_i hn
      rw [if_neg hn]
      split at h
      · cases h
      rename_i vy h2
      try simp only [h2]
      split at h
      · rename_i hc
        rw [if_pos hc]
        obtain ⟨v1,k1,e⟩ := mp_some_inv h;cases e
        rw [k1];rfl
      · rename_i hc
        rw [if_neg hc]
        obtain ⟨v1,k1,e⟩ := mp_some_inv h;cases e
        rw [k1];rfl
  case h_12 ts t x =>
    split at h
    · cases h
    rename_i k0 h0
    split at h
    · cases h
    rename_i k h1
    split at h
    · cases h
    rename_i vx h2
    split at h
    · cases h
      refine local_pure fun σ hA he hM => ?_
      have q1 := opV_env (x:=x) (e:=s.env) he
      simp only [opE,q1,h0,h1,h2]
    · cases h
  case h_13 op t x =>
    split at h
    · cases h
    rename_i vx h1
    obtain ⟨v1,h2,e⟩ := mp_some_inv h;cases e
    refine local_pure fun σ hA he hM => ?_
    have q1 := opV_env (x:=x) (e:=s.env) he
    simp only [opE,q1,h1,h2,mp_some]
  case h_14 f first caps =>
    split at h
    · rename_i hf
      split at h
      · cases h
      rename_i cs h1
      split at h
      · rename_i hk
        cases h
        refine local_pure fun σ hA he hM => ?_
        have q1 := opsV_env (xs:=caps.toList) (e:=s.env) (fun t ht => he t (by
          simp only [Op.operands,Array.toList_append,tmpsOf,List.filterMap_append]
          exact List.mem_append_right _ ht))
        simp only [opE,if_pos hf,q1,h1,if_pos hk]
      · cases h
    · cases h
  case h_15 t x y =>
    split at h
    · cases h
    rename_i vx h1
    split at h
    · cases h
    rename_i vy h2
    split at h
    · cases h
    rename_i z h3
    split at h
    · split at h
      · rename_i hc
        cases h
        obtain ⟨_,hW,hX⟩ := m id .x (by simp [accE])
        refine ⟨mv_new hW hX,fun σ hA he hM => ⟨_,?_,ag_new hA,mv_new hW hX⟩⟩
        have he' : ∀ t∈tmpsOf [x,y],geta σ.env t = geta s.env t := he
        have q1 := opV_env (x:=x) (fun t ht => he' t (by rw [tmpsOf_cons];exact List.mem_append_left _ ht))
        have q2 := opV_env (x:=y) (fun t ht => he' t (by rw [tmpsOf_cons];exact List.mem_append_right _ ht))
        simp only [opE,q1,q2,h1,h2,h3,if_pos hc]
      · cases h
    · cases h
  case h_16 t x lo hi =>
    split at h
    · cases h
    rename_i vx h1
    split at h
    · cases h
    rename_i vl h2
    split at h
    · cases h
    rename_i vh h3
    obtain ⟨v1,h4,e⟩ := mp_some_inv h;cases e
    refine local_pure fun σ hA he hM => ?_
    have he' : ∀ t∈tmpsOf ([x] ++ lo.toList ++ hi.toList),geta σ.env t = geta s.env t := by
      simpa [Op.operands] using he
    have happ : ∀ (a b : List Operand),tmpsOf (a ++ b) = tmpsOf a ++ tmpsOf b := fun a b => by simp [tmpsOf]
    rw [happ,happ] at he'
    have q1 := opV_env (x:=x) (fun t ht => he' t (List.mem_append_left _ (List.mem_append_left _ ht)))
    have q2 := optV_env (x:=lo) (fun t ht => he' t (List.mem_append_left _ (List.mem_append_right _ ht)))
    have q3 := optV_env (x:=hi) (fun t ht => he' t (List.mem_append_right _ ht))
    have hall : ∃ vs,opsV s.env ([x] ++ lo.toList ++ hi.toList) = some vs := by
      cases lo with
      | none =>
        cases hi with
        | none => exact ⟨[vx],by simp only [Option.toList,List.append_nil,opsV,h1,mp_some]⟩
        | some y =>
          simp only [optV] at h3
          obtain ⟨b,hb,_⟩ := mp_some_inv h3
          exact ⟨[vx,b],by simp only [Option.toList,List.append_nil,List.cons_append,List.nil_append,opsV,h1,hb,mp_some]⟩
      | some y =>
        simp only [optV] at h2
        obtain ⟨b,hb,_⟩ := mp_some_inv h2
        cases hi with
        | none => exact ⟨[vx,b],by simp only [Option.toList,List.append_nil,List.cons_append,List.nil_append,opsV,h1,hb,mp_some]⟩
        | some y' =>
          simp only [optV] at h3
          obtain ⟨b',hb',_⟩ := mp_some_inv h3
          exact ⟨[vx,b,b'],by simp only [Option.toList,List.cons_append,List.nil_append,opsV,h1,hb,hb',mp_some]⟩
    obtain ⟨vs,hvs⟩ := hall
    have hops : (Op.slice t x lo hi none).operands.toList = [x] ++ lo.toList ++ hi.toList := by simp [Op.operands]
    have hmem := opsV_mem hvs x vx (by simp) h1
    have q4 := sliceV_rd (σ:=σ) h4 (fun o ho => by
      rcases accML_of hmem ho with h | h
      · exact hM o (by simp only [accE,hops,hvs,Option.elim_some];exact h)
      · have := m o .r (by simp only [accE,hops,hvs,Option.elim_some];exact h)
        rw [hA o this];exact Alk.refl _)
    simp only [opE,q1,q2,q3,h1,h2,h3,q4,mp_some]
  case h_17 t x i =>
    split at h
    · cases h
    rename_i vx h1
    obtain ⟨v1,h2,e⟩ := mp_some_inv h;cases e
    refine local_pure fun σ hA he hM => ?_
    have q1 := opV_env (x:=x) (e:=s.env) he
    have hvs : opsV s.env (Op.fieldAddr t x i).operands.toList = some [vx] := by simp only [Op.operands,opsV,h1,mp_some]
    have q4 := fieldAddr_rd (σ:=σ) h2 (fun o ho => by
      rcases accML_of (List.mem_singleton.2 (rfl : vx = vx)) ho with h | h
      · exact hM o (by simp only [accE,hvs,Option.elim_some];exact h)
      · have := m o .r (by simp only [accE,hvs,Option.elim_some];exact h)
        rw [hA o this];exact Alk.refl _)
    simp only [opE,q1,h1,q4,mp_some]
  case h_18 t x i =>
    split at h
    · cases h
    rename_i vx h1
    split at h
    · split at h
      · rename_i hf
        obtain ⟨v1,h2,e⟩ := mp_some_inv h;cases e
        refine local_pure fun σ hA he hM => ?_
        have q1 := opV_env (x:=x) (e:=s.env) he
        simp only [opE,q1,h1,if_pos hf,h2,mp_some]
      · cases h
    · cases h
  case h_19 t x i =>
    split at h
    · cases h
    rename_i vx h1
    split at h
    · cases h
    rename_i vi h2
    split at h
    · rename_i ik iv
      obtain ⟨v1,h3,e⟩ := mp_some_inv h;cases e
      refine local_pure fun σ hA he hM => ?_
      have he' : ∀ t∈tmpsOf [x,i],geta σ.env t = geta s.env t := he
      have q1 := opV_env (x:=x) (fun t ht => he' t (by rw [tmpsOf_cons];exact List.mem_append_left _ ht))
      have q2 := opV_env (x:=i) (fun t ht => he' t (by rw [tmpsOf_cons];exact List.mem_append_right _ ht))
      have hvs : opsV s.env (Op.indexAddr t x i).operands.toList = some [vx,.int ik iv] := by simp only [Op.operands,opsV,h1,h2,mp_some]
      have q4 := indexAddr_rd (σ:=σ) h3 (fun o ho => by
        rcases accML_of (List.mem_cons_self .. : vx∈[vx,V.int ik iv]) ho with h | h
        · exact hM o (by simp only [accE,hvs,Option.elim_some];exact h)
        · have := m o .r (by simp only [accE,hvs,Option.elim_some];exact h)
          rw [hA o this];exact Alk.refl _)
      simp only [opE,q1,q2,h1,h2,q4,mp_some]
    · cases h
  case h_20 x i =>
    split at h
    · cases h
    rename_i vx h1
    split at h
    · obtain ⟨v1,h2,e⟩ := mp_some_inv h;cases e
      refine local_pure fun σ hA he hM => ?_
      have q1 := opV_env (x:=x) (e:=s.env) he
      simp only [opE,q1,h1,h2,mp_some]
    · cases h
  case h_21 c =>
    split at h
    · cases h
    rename_i vs h1
    have henv : ∀ σ : St,(∀ t∈tmpsOf (Op.call c).operands.toList,geta σ.env t = geta s.env t)→opsV σ.env c.args.toList = opsV s.env c.args.toList := fun σ he => opsV_env (fun t ht => he t (by
      simp only [Op.operands,Call.operands,Array.toList_append,tmpsOf,List.filterMap_append]
      exact List.mem_append_right _ ht))
    split at h
    · rename_i b hc
      unfold builtinV at h
      split at h
      · split at h
        · cases h
        rename_i t h2
        split at h
        · rename_i hel
          obtain ⟨n,h3,e⟩ := mp_some_inv h;cases e
          refine local_pure fun σ hA he hM => ?_
          simp only [opE,henv σ he,h1,hc,builtinV,h2,if_pos hel,h3,mp_some]
        · cases h
      · split at h
        · cases h
        rename_i t h2
        split at h
        · cases h
        rename_i t' h3
        split at h
        · cases h
        rename_i z hz
        split at h
        · rename_i hcond
          cases h
          simp only [accE,hc,h1,Option.elim_some] at m
          obtain ⟨_,hW,hX⟩ := m id .x (List.mem_cons_self ..)
          refine ⟨mv_new hW hX,fun σ hA he hM => ?_⟩
          refine ⟨_,?_,ag_new hA,mv_new hW hX⟩
          simp only [opE,henv σ he,h1,hc,builtinV,h2,h3,hz,if_pos hcond]
        · cases h
      · rename_i x y _
        split at h
        · cases h
        rename_i t h2
        split at h
        · cases h
        rename_i t' h3
        split at h
        · rename_i hel
          unfold appendV at h
          split at h
          · cases h
          rename_i z hz
          split at h
          · cases h
          rename_i el hel2
          split at h
          · cases h
          rename_i b hb
          split at h
          · rename_i hcond
            cases h
            simp only [accE,hc,h1,Option.elim_some] at m
            obtain ⟨_,hW,hX⟩ := m id .x (List.mem_cons_self ..)
            have m1 : May R W X (x.asRow z.cells).accF := fun o a ha => m o a (List.mem_cons_of_mem _ (List.mem_append_left _ (by rw [asRow_accF] at ha;exact ha)))
            have m2 : May R W X (accS base y) := fun o a ha => m o a (List.mem_cons_of_mem _ (List.mem_append_right _ ha))
            refine ⟨((elems_mv hel2 m2).trans (base_mv hb m1)).trans (mv_new hW hX),fun σ hA he hM => ?_⟩
            obtain ⟨σ1,k1,k2⟩ := elems_ag hA hel2 m2
            obtain ⟨σ2,k3,k4⟩ := base_ag k2 hb m1
            refine ⟨_,?_,ag_new k4,(Mv.trans (elems_mv k1 m2) (base_mv k3 m1)).trans (mv_new hW hX)⟩
            simp only [opE,henv σ he,h1,hc,builtinV_app (elems_notInt k1),h2,h3,if_pos hel,appendV,hz,k1,k3,if_pos hcond]
          · cases h
        · cases h
      · rename_i o lo n
        split at h
        · cases h
        rename_i t h2
        split at h
        · cases h
        rename_i z hz
        split at h
        · cases h
        rename_i ob hob
        split at h
        · rename_i hcond
          cases h
          simp only [accE,hc,h1,Option.elim_some] at m
          obtain ⟨hR,hW,hX⟩ := m o .x (by simp [accAll,V.mentionL,V.mention])
          refine ⟨mv_put hW (.inl hX),fun σ hA he hM => ?_⟩
          have hg := hA o hR
          rw [hob] at hg
          refine ⟨_,?_,hA.put o _,mv_put hW (.inl hX)⟩
          simp only [opE,henv σ he,h1,hc,builtinV,h2,hz,hg,if_pos hcond]
        · cases h
      · split at h
        · cases h
        rename_i t h2
        split at h
        · rename_i hel
          cases h
          refine local_pure fun σ hA he hM => ?_
          simp only [opE,henv σ he,h1,hc,builtinV,h2,if_pos hel]
        · cases h
      · obtain ⟨n,h3,e⟩ := mp_some_inv h;cases e
        refine local_pure fun σ hA he hM => ?_
        simp only [opE,henv σ he,h1,hc,builtinV,h3,mp_some]
      · obtain ⟨n,h3,e⟩ := mp_some_inv h;cases e
        refine local_pure fun σ hA he hM => ?_
        simp only [opE,henv σ he,h1,hc,builtinV,h3,mp_some]
      · cases h
    · rename_i f hc
      split at h
      · cases h
      rename_i vf h2
      split at h
      · split at h
        · rename_i hk
          split at h
          · rw [hI] at h;cases h
          rename_i hb
          simp only [accE,hc,h1,h2,Option.elim_some] at m
          have mL : May R W X (accAll .x v.mention ++ accLend (cfg.md _) (vs ++ _) s) := m.left.append (by
            have := m.right
            unfold accArgs at this
            exact this.left)
          refine ⟨callV_mv h mL,fun σ hA he hM => ?_⟩
          have q2 := opV_env (x:=f) (e:=s.env) (e' := σ.env) (fun t ht => he t (by
            simp only [Op.operands,Call.operands,hc,Array.toList_append,tmpsOf,List.filterMap_append]
            exact List.mem_append_left _ ht))
          obtain ⟨σ',k1,k2,k3⟩ := callV_ag hA h m
          exact ⟨σ',by simp only [opE,henv σ he,h1,hc,q2,h2,if_pos hk,if_neg hb,k1],k2,k3⟩
        · cases h
      · cases h
    · cases h
  case h_22 => cases h
end
end Go.Proofs.Ytbcgenkegnmkhaa.Ev
namespace Go.Proofs.Ytbcgenkegnmkhaa.Ev
def atD {α : Type} (c : Nat→α) (wr : Nat→Bool) (D : Nat→Bool) : Nat→α
  | 0 => c 0
  | m + 1 => if (D m && wr m) = true then c (m + 1) else atD c wr D m
section
variable {α : Type} {c : Nat→α} {wr D D' : Nat→Bool} {n i : Nat}
theorem atD_all (h : ∀ m,m < n→wr m = false→c (m + 1) = c m) (hD : ∀ m,m < n→D m = true) : atD c wr D n = c n := by
  induction n with
  | zero => rfl
  | succ n ih =>
    simp only [atD]
    have ih := ih (fun m hm => h m (by omega)) (fun m hm => hD m (by omega))
    cases hw : wr n with
    | true => rw [hD n (by omega)];rfl
    | false => simp only [Bool.and_false,Bool.false_eq_true,if_false];rw [ih,h n (by omega) hw]
theorem atD_of (h : ∀ m,m < n→wr m = false→c (m + 1) = c m) (h1 : ∀ m,m < i→wr m = true→D m = true) (h2 : ∀ m,i≤m→m < n→wr m = true→D m = false) (hi : i≤n) : atD c wr D n = c i := by
  have low : ∀ m,m≤i→m≤n→atD c wr D m = c m := by
    intro m
    induction m with
    | zero => intro _ _;rfl
    | succ m ih =>
      intro hm hn
      have ih := ih (by omega) (by omega)
      simp only [atD]
      cases hw : wr m with
      | true => rw [h1 m (by omega) hw];rfl
      | false => simp only [Bool.and_false,Bool.false_eq_true,if_false];rw [ih,h m (by omega) hw]
  have high : ∀ k,i + k≤n→atD c wr D (i + k) = c i := by
    intro k
    induction k with
    | zero => intro _;exact low i (Nat.le_refl _) hi
    | succ k ih =>
      intro hk
      have ih := ih (by omega)
      rw [show i + (k + 1) = (i + k) + 1 from by omega]
      simp only [atD]
      cases hw : wr (i + k) with
      | true => rw [h2 (i + k) (by omega) (by omega) hw];simpa using ih
      | false => simpa using ih
  have := high (n - i) (by omega)
  rwa [show i + (n - i) = n from by omega] at this
theorem atD_put (hw : wr i = true) (hi : i < n) (hD : D' i = true) (h2 : ∀ m,i < m→m < n→wr m = true→D' m = false) : atD c wr D' n = c (i + 1) := by
  have high : ∀ k,i + 1 + k≤n→atD c wr D' (i + 1 + k) = c (i + 1) := by
    intro k
    induction k with
    | zero => intro _;simp only [Nat.add_zero,atD];rw [hD,hw];rfl
    | succ k ih =>
      intro hk
      have ih := ih (by omega)
      rw [show i + 1 + (k + 1) = (i + 1 + k) + 1 from by omega]
      simp only [atD]
      cases hx : wr (i + 1 + k) with
      | true => rw [h2 (i + 1 + k) (by omega) (by omega) hx];simpa using ih
      | false => simpa using ih
  have := high (n - (i + 1)) (by omega)
  rwa [show i + 1 + (n - (i + 1)) = n from by omega] at this
theorem atD_same (h : ∀ m,m < n→(D m && wr m) = (D' m && wr m)) : atD c wr D n = atD c wr D' n := by
  induction n with
  | zero => rfl
  | succ n ih =>
    simp only [atD]
    rw [h n (by omega),ih (fun m hm => h m (by omega))]
theorem atD_shape {r : α→α→Prop} (refl : ∀ a,r a a) (symm : ∀ {a b},r a b→r b a) (trans : ∀ {a b d},r a b→r b d→r a d) {X : Nat→Bool} (hX : ∀ m,X m = true→wr m = true)
    (h : ∀ m,m < n→X m = false→r (c m) (c (m + 1))) (hi : i < n) (hDi : D i = false) (hXi : X i = false) (h1 : ∀ m,m < i→X m = true→D m = true) (h2 : ∀ m,i < m→m < n→D m = true→X m = false)
    (h3 : ∀ k m,k < m→m < n→X k = true→D m = true→wr m = true→D k = true) : r (c i) (atD c wr D n) := by
  have low : ∀ m,m≤i→r (c m) (atD c wr D m) := by
    intro m
    induction m with
    | zero => intro _;exact refl _
    | succ m ih =>
      intro hm
      have ih := ih (by omega)
      simp only [atD]
      split
      · exact refl _
      · rename_i hc
        cases hx : X m with
        | true => exact absurd (by rw [h1 m (by omega) hx,hX m hx];rfl) hc
        | false => exact trans (symm (h m (by omega) hx)) ih
  have high : ∀ k,i + k≤n→r (c i) (atD c wr D (i + k))∧((∀ q,i≤q→q < i + k→X q = false)∧r (c i) (c (i + k))∨∀ q,i + k≤q→q < n→D q = true→wr q = false) := by
    intro k
    induction k with
    | zero => intro _;exact ⟨low i (Nat.le_refl _),.inl ⟨fun q h1 h2 => by omega,refl _⟩⟩
    | succ k ih =>
      intro hk
      obtain ⟨ih1,ih2⟩ := ih (by omega)
      have e : i + (k + 1) = (i + k) + 1 := by omega
      rw [e]
      simp only [atD]
      rcases ih2 with ⟨hno,hr⟩ | hno
      · cases hx : X (i + k) with
        | true =>
          have hDf : D (i + k) = false := by
            cases hd : D (i + k) with
            | false => rfl
            | true =>
              by_cases hk0 : k = 0
              · subst hk0;rw [Nat.add_zero,hDi] at hd;cases hd
              · rw [h2 (i + k) (by omega) (by omega) hd] at hx;cases hx
          rw [hDf]
          simp only [Bool.false_and,Bool.false_eq_true,if_false]
          refine ⟨ih1,.inr fun q h4 h5 h6 => ?_⟩
          cases hw : wr q with
          | false => rfl
          | true => rw [h3 (i + k) q (by omega) h5 hx h6 hw] at hDf;cases hDf
        | false =>
          have hr' := trans hr (h (i + k) (by omega) hx)
          refine ⟨?_,.inl ⟨fun q h4 h5 => ?_,hr'⟩⟩
          · split
            · exact hr'
            · exact ih1
          · by_cases e : q = i + k
            · subst e;exact hx
            · exact hno q h4 (by omega)
      · refine ⟨?_,.inr fun q h4 h5 h6 => hno q (by omega) h5 h6⟩
        split
        · rename_i hc
          simp only [Bool.and_eq_true] at hc
          rw [hno (i + k) (Nat.le_refl _) (by omega) hc.1] at hc
          cases hc.2
        · exact ih1
  have := (high (n - i) (by omega)).1
  rwa [show i + (n - i) = n from by omega] at this
end
end Go.Proofs.Ytbcgenkegnmkhaa.Ev
namespace Go.Proofs.Ytbcgenkegnmkhaa.Ev
open Go
set_option linter.unusedSectionVars false
set_option linter.unusedSimpArgs false
structure Run (call : Call) (cfg : Cfg) (L : List Oper) (base : Nat) (lo hi : Nat) (st : Nat→St) (val : Nat→V) (acc : Nat→List (Nat × Acc)) (act : Nat→Bool) : Prop where
  guard : ∀ i o,lo≤i→i < hi→L[i]? = some o→guardE L (st i).env o.guard = some (act i)
  on : ∀ i o,lo≤i→i < hi→L[i]? = some o→act i = true→∃ mid,opE call cfg (base + 32 * i) base (st i) o.type o.op = some (val i,mid)∧st (i + 1) = mid.put o.dst (val i)∧acc i = accE cfg (base + 32 * i) base (st i) (val i) o.op
  off : ∀ i o,lo≤i→i < hi→L[i]? = some o→act i = false→st (i + 1) = (st i).put o.dst (.iop .und)∧acc i = []∧val i = .iop .und
theorem run_of {call : Call} {cfg : Cfg} {L : List Oper} {base : Nat} : ∀ (rest pre : List Oper) {s : St} {tr : List (List (Nat × Acc))} {r : St × List (List (Nat × Acc))},L = pre ++ rest→opsE call cfg true L base pre.length rest s tr = some r →
    ∃ st val acc act,Run call.noI cfg L base pre.length (pre.length + rest.length) st val acc act∧st pre.length = s∧st (pre.length + rest.length) = r.1∧r.2 = ((List.range' pre.length rest.length).map acc).reverse ++ tr
  | [],pre,s,tr,r,e,h => by
    simp only [opsE,Option.some.injEq] at h
    subst h
    exact ⟨fun _ => s,fun _ => .und,fun _ => [],fun _ => false,⟨fun i o h1 h2 => by simp at h2;omega,fun i o h1 h2 => by simp at h2;omega,fun i o h1 h2 => by simp at h2;omega⟩,rfl,rfl,by simp⟩
  | o :: rest,pre,s,tr,r,e,h => by
    have e' : L = (pre ++ [o]) ++ rest := by rw [e];simp
    have hlen : (pre ++ [o]).length = pre.length + 1 := by simp
    have hget : L[pre.length]? = some o := by rw [e];simp
    simp only [opsE,Call.pick,St.on,if_true] at h
    have build : ∀ {s1 : St} {a1 : List (Nat × Acc)} {v1 : V} {b1 : Bool},opsE call cfg true L base (pre.length + 1) rest s1 (a1 :: tr) = some r→guardE L s.env o.guard = some b1 →
        (b1 = true→∃ mid,opE call.noI cfg (base + 32 * pre.length) base s o.type o.op = some (v1,mid)∧s1 = mid.put o.dst v1∧a1 = accE cfg (base + 32 * pre.length) base s v1 o.op)→(b1 = false→s1 = s.put o.dst (.iop .und)∧a1 = []∧v1 = .iop .und) →
        ∃ st val acc act,Run call.noI cfg L base pre.length (pre.length + (o :: rest).length) st val acc act∧st pre.length = s∧st (pre.length + (o :: rest).length) = r.1∧r.2 = ((List.range' pre.length (o :: rest).length).map acc).reverse ++ tr := by
      intro s1 a1 v1 b1 hr hg h1 h0
      rw [← hlen] at hr
      obtain ⟨st,val,acc,act,R,k1,k2,k3⟩ := run_of rest (pre ++ [o]) e' hr
      rw [hlen] at R k1 k2 k3
      have hend : pre.length + (o :: rest).length = pre.length + 1 + rest.length := by simp only [List.length_cons];omega
      refine ⟨fun j => if j = pre.length then s else st j,fun j => if j = pre.length then v1 else val j,fun j => if j = pre.length then a1 else acc j,fun j => if j = pre.length then b1 else act j,⟨?_,?_,?_⟩,by simp,?_,?_⟩
      · intro i q g1 g2 g3
        by_cases hi : i = pre.length
        · subst hi
          rw [hget] at g3;cases g3
          simp only [if_true];exact hg
        · simp only [if_neg hi]
          exact R.guard i q (by omega) (by omega) g3
      · intro i q g1 g2 g3 g4
        by_cases hi : i = pre.length
        · subst hi
          rw [hget] at g3;cases g3
          simp only [if_true] at g4 ⊢
          obtain ⟨mid,m1,m2,m3⟩ := h1 g4
          refine ⟨mid,m1,?_,m3⟩
          rw [if_neg (by omega),k1];exact m2
        · simp only [if_neg hi] at g4 ⊢
          rw [if_neg (by omega)]
          exact R.on i q (by omega) (by omega) g3 g4
      · intro i q g1 g2 g3 g4
        by_cases hi : i = pre.length
        · subst hi
          rw [hget] at g3;cases g3
          simp only [if_true] at g4 ⊢
          rw [if_neg (by omega),k1]
          exact h0 g4
        · simp only [if_neg hi] at g4 ⊢
          rw [if_neg (by omega)]
          exact R.off i q (by omega) (by omega) g3 g4
      · simp only
        rw [if_neg (by simp only [List.length_cons];omega),hend];exact k2
      · rw [k3]
        simp only [List.length_cons,List.range'_succ,List.map_cons,List.reverse_cons,List.append_assoc,List.cons_append,List.nil_append,if_true]
        congr 2
        apply List.map_congr_left
        intro j hj
        have := (List.mem_range'_1.1 hj).1
        rw [if_neg (by omega)]
    split at h
    · cases h
    · rename_i hg
      split at h
      · cases h
      · rename_i a ha
        exact build h hg (fun _ => ⟨a.2,ha,rfl,rfl⟩) (fun e => by cases e)
    · rename_i hg
      exact build h hg (fun e => by cases e) (fun _ => ⟨rfl,rfl,rfl⟩)
def Ord (L : List Oper) (i j : Nat) : Prop := ((beforeE L 0 L []).getD j 0).testBit i = true
def bitsFor (o : Oper) (j : Nat) (B : List Nat) : Nat := o.after.toList.foldl (fun s e => if Region.binds .any e = true∧e.on < j then s ||| 2 ^ e.on ||| B.getD e.on 0 else s) 0
theorem beforeE_len {ops : List Oper} : ∀ {rest : List Oper} {i : Nat} {B : List Nat},(beforeE ops i rest B).length = B.length + rest.length
  | [],i,B => rfl
  | o :: r,i,B => by
    simp only [beforeE]
    rw [beforeE_len];simp;omega
theorem beforeE_pre {ops : List Oper} : ∀ {rest : List Oper} {i : Nat} {B : List Nat} {j : Nat},j < B.length→(beforeE ops i rest B).getD j 0 = B.getD j 0
  | [],i,B,j,h => rfl
  | o :: r,i,B,j,h => by
    simp only [beforeE]
    rw [beforeE_pre (by simp;omega)]
    simp [List.getD_eq_getElem?_getD,List.getElem?_append_left h]
theorem beforeE_at {ops : List Oper} : ∀ {rest : List Oper} {i : Nat} {B : List Nat} {j : Nat} {o : Oper},B.length = i→rest[j]? = some o→(beforeE ops i rest B).getD (i + j) 0 = bitsFor o (i + j) (beforeE ops i rest B)
  | [],i,B,j,o,h,e => by cases e
  | q :: r,i,B,0,o,h,e => by
    simp only [List.getElem?_cons_zero,Option.some.injEq] at e
    subst e
    simp only [beforeE,Nat.add_zero]
    rw [beforeE_pre (by simp;omega)]
    have : (B ++ [q.after.toList.foldl (fun s e => if Region.binds .any e = true∧e.on < i then s ||| 2 ^ e.on ||| B.getD e.on 0 else s) 0]).getD i 0 = q.after.toList.foldl (fun s e => if Region.binds .any e = true∧e.on < i then s ||| 2 ^ e.on ||| B.getD e.on 0 else s) 0 := by
      rw [List.getD_eq_getElem?_getD,List.getElem?_append_right (by omega)]
      simp [h]
    rw [this]
    unfold bitsFor
    congr 1
    funext s e
    split
    · rename_i hc
      rw [beforeE_pre (by simp;omega)]
      rw [List.getD_eq_getElem?_getD,List.getD_eq_getElem?_getD,List.getElem?_append_left (by omega)]
    · rfl
  | q :: r,i,B,j + 1,o,h,e => by
    simp only [List.getElem?_cons_succ] at e
    simp only [beforeE]
    rw [show i + (j + 1) = (i + 1) + j from by omega]
    exact beforeE_at (by simp [h]) e
theorem foldl_bits {es : List Edge} {j : Nat} {B : List Nat} {i : Nat} : ∀ {s : Nat},(es.foldl (fun s e => if Region.binds .any e = true∧e.on < j then s ||| 2 ^ e.on ||| B.getD e.on 0 else s) s).testBit i = true →
    s.testBit i = true∨∃ e∈es,Region.binds .any e = true∧e.on < j∧(i = e.on∨(B.getD e.on 0).testBit i = true) := by
  induction es with
  | nil => intro s h;exact .inl h
  | cons e es ih =>
    intro s h
    simp only [List.foldl_cons] at h
    rcases ih h with h | ⟨e',h1,h2⟩
    · split at h
      · rename_i hc
        rw [Nat.testBit_or,Nat.testBit_or,Bool.or_eq_true,Bool.or_eq_true] at h
        rcases h with (h | h) | h
        · exact .inl h
        · refine .inr ⟨e,List.mem_cons_self ..,hc.1,hc.2,.inl ?_⟩
          rw [Nat.testBit_two_pow] at h
          simpa using Eq.symm (by simpa using h)
        · exact .inr ⟨e,List.mem_cons_self ..,hc.1,hc.2,.inr h⟩
      · exact .inl h
    · exact .inr ⟨e',List.mem_cons_of_mem _ h1,h2⟩
theorem ord_edge {L : List Oper} {i j : Nat} {o : Oper} (ho : L[j]? = some o) (h : Ord L i j) : ∃ e∈o.after.toList,Region.binds .any e = true∧e.on < j∧(i = e.on∨Ord L i e.on) := by
  unfold Ord at h
  have := beforeE_at (ops:=L) (rest:=L) (i:=0) (B:=[]) rfl ho
  rw [Nat.zero_add] at this
  rw [this] at h
  unfold bitsFor at h
  rcases foldl_bits h with h | h
  · simp at h
  · exact h
theorem closed_ord {L : List Oper} {D : Nat→Prop} (hD : ∀ j o,D j→L[j]? = some o→∀ e∈o.after.toList,Region.binds .any e = true→D e.on) : ∀ (j : Nat) {i : Nat},D j→Ord L i j→D i := by
  intro j
  induction j using Nat.strongRecOn with
  | _ j ih =>
    intro i hj h
    cases ho : L[j]? with
    | none =>
      have hl : L.length≤j := by simpa using ho
      unfold Ord at h
      rw [List.getD_eq_getElem?_getD,List.getElem?_eq_none (by rw [beforeE_len];simpa using hl)] at h
      simp at h
    | some o =>
      obtain ⟨e,h1,h2,h3,h4⟩ := ord_edge ho h
      have hde := hD j o hj ho e h1 h2
      rcases h4 with h4 | h4
      · subst h4;exact hde
      · exact ih e.on h3 hde h4
theorem calm_spec {bits : List Nat} {acc : Nat→List (Nat × Acc)} : ∀ {k : Nat},calmE bits k ((List.range' 0 (k + 1)).map acc).reverse = true→∀ i j,i < j→j≤k→(bits.getD j 0).testBit i = true∨clashL (acc j) (acc i) = false := by
  intro k
  induction k with
  | zero => intro _ i j h1 h2;omega
  | succ k ih =>
    intro h i j h1 h2
    have e : ((List.range' 0 (k + 1 + 1)).map acc).reverse = acc (k + 1) :: ((List.range' 0 (k + 1)).map acc).reverse := by
      rw [List.range'_concat];simp
    rw [e] at h
    simp only [calmE,Bool.and_eq_true] at h
    by_cases hj : j = k + 1
    · subst hj
      have h0 := h.1
      rw [List.all_eq_true] at h0
      have hm : (acc i,k - i)∈((List.range' 0 (k + 1)).map acc).reverse.zipIdx := by
        rw [List.mem_zipIdx_iff_getElem?]
        rw [List.getElem?_reverse (by simp;omega)]
        simp only [List.length_map,List.length_range',List.getElem?_map]
        rw [List.getElem?_range' (by omega)]
        simp only [Option.map_some,Option.some.injEq]
        congr 1;omega
      have := h0 _ hm
      simp only [Bool.or_eq_true,Bool.not_eq_true'] at this
      rw [show k + 1 - 1 - (k - i) = i from by omega] at this
      exact this
    · exact ih (by simpa using h.2) i j h1 (by omega)
theorem clash_of {a b : List (Nat × Acc)} {o : Nat} {x1 y1 : Acc} (ha : (o,x1)∈a) (hb : (o,y1)∈b) (h : x1.clash y1 = true) : clashL a b = true := by
  unfold clashL
  rw [List.any_eq_true]
  refine ⟨(o,x1),ha,?_⟩
  rw [List.any_eq_true]
  exact ⟨(o,y1),hb,by simp [h]⟩
def isW : Acc→Bool
  | .w => true
  | .x => true
  | _ => false
def isX : Acc→Bool
  | .x => true
  | _ => false
def wrO (acc : Nat→List (Nat × Acc)) (o i : Nat) : Bool := (acc i).any fun p => decide (p.1 = o) && isW p.2
def wrX (acc : Nat→List (Nat × Acc)) (o i : Nat) : Bool := (acc i).any fun p => decide (p.1 = o) && isX p.2
def wrT (L : List Oper) (t i : Nat) : Bool := decide ((L[i]?).bind (·.dst) = some t)
theorem wrO_spec {acc : Nat→List (Nat × Acc)} {o i : Nat} : wrO acc o i = true↔∃ a,(o,a)∈acc i∧isW a = true := by
  unfold wrO
  rw [List.any_eq_true]
  constructor
  · rintro ⟨⟨q,a⟩,h,e⟩
    simp only [Bool.and_eq_true,decide_eq_true_eq] at e
    obtain ⟨rfl,e⟩ := e
    exact ⟨a,h,e⟩
  · rintro ⟨a,h,e⟩
    exact ⟨(o,a),h,by simp [e]⟩
theorem wrX_spec {acc : Nat→List (Nat × Acc)} {o i : Nat} : wrX acc o i = true↔∃ a,(o,a)∈acc i∧isX a = true := by
  unfold wrX
  rw [List.any_eq_true]
  constructor
  · rintro ⟨⟨q,a⟩,h,e⟩
    simp only [Bool.and_eq_true,decide_eq_true_eq] at e
    obtain ⟨rfl,e⟩ := e
    exact ⟨a,h,e⟩
  · rintro ⟨a,h,e⟩
    exact ⟨(o,a),h,by simp [e]⟩
structure Calm (call : Call) (cfg : Cfg) (L : List Oper) (base : Nat) (st : Nat→St) (val : Nat→V) (acc : Nat→List (Nat × Acc)) (act : Nat→Bool) : Prop where
  run : Run call cfg L base 0 L.length st val acc act
  calm : ∀ i j,i < j→j < L.length→Ord L i j∨clashL (acc j) (acc i) = false
  temps : tempsOk L = true
  noI : ∀ f vs s id,call.i f vs s id = none
section
variable {call : Call} {cfg : Cfg} {L : List Oper} {base : Nat} {st : Nat→St} {val : Nat→V} {acc : Nat→List (Nat × Acc)} {act : Nat→Bool} (Q : Calm call cfg L base st val acc act)
include Q
theorem Calm.temp {i j : Nat} {a b : Oper} (hij : i < j) (hj : j < L.length) (ha : L[i]? = some a) (hb : L[j]? = some b) (h : (∃ t,a.dst = some t∧t∈namesE L b)∨∃ t,b.dst = some t∧t∈namesE L a) : Ord L i j := by
  have ht := Q.temps
  unfold tempsOk at ht
  simp only [Bool.and_eq_true] at ht
  have h2 := ht.2
  rw [List.all_eq_true] at h2
  have h3 := h2 j (List.mem_range.2 hj)
  rw [List.all_eq_true] at h3
  have h4 := h3 i (List.mem_range.2 hij)
  rw [ha,hb] at h4
  simp only [Bool.or_eq_true,Bool.not_eq_true',Bool.or_eq_false_iff] at h4
  rcases h4 with h4 | ⟨h5,h6⟩
  · exact h4
  · exfalso
    rcases h with ⟨t,e,hm⟩ | ⟨t,e,hm⟩
    · rw [e] at h5
      simp only [Option.toList,List.any_cons,List.any_nil,Bool.or_false] at h5
      rw [List.contains_eq_mem] at h5
      simp [hm] at h5
    · rw [e] at h6
      simp only [Option.toList,List.any_cons,List.any_nil,Bool.or_false] at h6
      rw [List.contains_eq_mem] at h6
      simp [hm] at h6
theorem Calm.edge {j : Nat} {o : Oper} (ho : L[j]? = some o) {e : Edge} (he : e∈o.after.toList) (hb : Region.binds .any e = true) : e.on < j := by
  have ht := Q.temps
  unfold tempsOk at ht
  simp only [Bool.and_eq_true] at ht
  have h1 := ht.1
  rw [List.all_eq_true] at h1
  have hm : (o,j)∈L.zipIdx := by rw [List.mem_zipIdx_iff_getElem?];exact ho
  have h2 := h1 _ hm
  rw [List.all_eq_true] at h2
  have h3 := h2 e he
  simpa [hb] using h3
theorem Calm.obj {i j : Nat} (hij : i < j) (hj : j < L.length) {o : Nat} {a b : Acc} (ha : (o,a)∈acc j) (hb : (o,b)∈acc i) (h : a.clash b = true) : Ord L i j := by
  rcases Q.calm i j hij hj with h1 | h1
  · exact h1
  · rw [clash_of ha hb h] at h1;cases h1
theorem Calm.may (i : Nat) : May (fun o => ∃ a,(o,a)∈acc i∧a ≠ .m) (fun o => wrO acc o i = true) (fun o => wrX acc o i = true) (acc i) := by
  intro o a ha
  cases a with
  | m => trivial
  | r => exact ⟨.r,ha,by simp⟩
  | w => exact ⟨⟨.w,ha,by simp⟩,wrO_spec.2 ⟨.w,ha,rfl⟩⟩
  | x => exact ⟨⟨.x,ha,by simp⟩,wrO_spec.2 ⟨.x,ha,rfl⟩,wrX_spec.2 ⟨.x,ha,rfl⟩⟩
theorem Calm.step {i : Nat} (hi : i < L.length) : (∀ o,wrO acc o i = false→geta (st (i + 1)).obs o = geta (st i).obs o)∧(∀ o,wrX acc o i = false→Alk (geta (st i).obs o) (geta (st (i + 1)).obs o)) ∧
    (∀ t,wrT L t i = false→geta (st (i + 1)).env t = geta (st i).env t) := by
  have hget : L[i]? = some L[i] := List.getElem?_eq_getElem hi
  have obs_put : ∀ (s : St) (d : Option Nat) (v : V),(s.put d v).obs = s.obs := fun s d v => by cases d <;> rfl
  have env_put : ∀ (s : St) (v : V) (t : Nat),wrT L t i = false→geta (s.put (L[i]).dst v).env t = geta s.env t := by
    intro s v t ht
    unfold wrT at ht
    rw [hget] at ht
    simp only [Option.bind_some,decide_eq_false_iff_not] at ht
    cases hd : (L[i]).dst with
    | none => rfl
    | some d =>
      have e : t ≠ d := fun e => ht (by rw [hd,e])
      simp only [St.put,geta_puta_ne e]
  cases ha : act i with
  | true =>
    obtain ⟨mid,h1,h2,h3⟩ := Q.run.on i _ (Nat.zero_le _) hi hget ha
    have hm : May (fun o => ∃ a,(o,a)∈acc i∧a ≠ .m) (fun o => wrO acc o i = true) (fun o => wrX acc o i = true) (accE cfg (base + 32 * i) base (st i) (val i) (L[i]).op) := fun o a ha => Q.may i o a (by rw [h3];exact ha)
    have hl := (opE_local Q.noI h1 (R:=fun o => ∃ a,(o,a)∈acc i∧a ≠ .m) (W:=fun o => wrO acc o i = true) (X:=fun o => wrX acc o i = true) hm).mv
    rw [h2]
    refine ⟨fun o ho => ?_,fun o ho => ?_,fun t ht => ?_⟩
    · rw [obs_put];exact hl.w o (by rw [ho];simp)
    · rw [obs_put];exact hl.x o (by rw [ho];simp)
    · rw [env_put mid _ t ht,hl.env]
  | false =>
    obtain ⟨h1,h2,h3⟩ := Q.run.off i _ (Nat.zero_le _) hi hget ha
    rw [h1]
    refine ⟨fun o _ => by rw [obs_put],fun o _ => by rw [obs_put];exact Alk.refl _,fun t ht => env_put (st i) _ t ht⟩
theorem isX_isW {a : Acc} (h : isX a = true) : isW a = true := by cases a <;> simp_all [isX,isW]
variable {D : Nat→Bool} (hcl : ∀ j o,D j = true→L[j]? = some o→∀ e∈o.after.toList,Region.binds .any e = true→D e.on = true)
include hcl
theorem Calm.down {i j : Nat} (hj : D j = true) (h : Ord L i j) : D i = true :=
  closed_ord (D:=fun i => D i = true) hcl j hj h
variable {i : Nat} {o : Oper} (hi : i < L.length) (hget : L[i]? = some o) (hDi : D i = false) (hrd : ∀ e∈o.after.toList,Region.binds .any e = true→D e.on = true)
include hi hget hDi hrd
theorem Calm.pred {m : Nat} (h : Ord L m i) : D m = true := by
  obtain ⟨e,h1,h2,_,h4⟩ := ord_edge hget h
  have hd := hrd e h1 h2
  rcases h4 with h4 | h4
  · subst h4;exact hd
  · exact Q.down hcl hd h4
theorem Calm.slot {t : Nat} (ht : t∈namesE L o) : atD (fun m => geta (st m).env t) (wrT L t) D L.length = geta (st i).env t := by
  refine atD_of (fun m hm hw => (Q.step hm).2.2 t hw) ?_ ?_ (Nat.le_of_lt hi)
  · intro m hm hw
    have hml : m < L.length := by omega
    have hgm : L[m]? = some L[m] := List.getElem?_eq_getElem hml
    unfold wrT at hw
    rw [hgm] at hw
    simp only [Option.bind_some,decide_eq_true_eq] at hw
    exact Q.pred hcl hi hget hDi hrd (Q.temp hm hi hgm hget (.inl ⟨t,hw,ht⟩))
  · intro m h1 h2 hw
    by_cases e : m = i
    · subst e;exact hDi
    · have hgm : L[m]? = some L[m] := List.getElem?_eq_getElem h2
      unfold wrT at hw
      rw [hgm] at hw
      simp only [Option.bind_some,decide_eq_true_eq] at hw
      cases hd : D m with
      | false => rfl
      | true =>
        have := Q.down hcl hd (Q.temp (by omega) h2 hget hgm (.inr ⟨t,hw,ht⟩))
        rw [hDi] at this;cases this
theorem Calm.object {q : Nat} (hq : ∃ a,(q,a)∈acc i∧a ≠ .m) : atD (fun m => geta (st m).obs q) (wrO acc q) D L.length = geta (st i).obs q := by
  obtain ⟨a,ha,hne⟩ := hq
  have clash : ∀ {b : Acc},isW b = true→a.clash b = true∧b.clash a = true := by
    intro b hb
    cases a <;> cases b <;> simp_all [isW,Acc.clash]
  refine atD_of (fun m hm hw => (Q.step hm).1 q hw) ?_ ?_ (Nat.le_of_lt hi)
  · intro m hm hw
    obtain ⟨b,hb,hwb⟩ := wrO_spec.1 hw
    exact Q.pred hcl hi hget hDi hrd (Q.obj hm hi ha hb (clash hwb).1)
  · intro m h1 h2 hw
    by_cases e : m = i
    · subst e;exact hDi
    · obtain ⟨b,hb,hwb⟩ := wrO_spec.1 hw
      cases hd : D m with
      | false => rfl
      | true =>
        have := Q.down hcl hd (Q.obj (by omega) h2 hb ha (clash hwb).2)
        rw [hDi] at this;cases this
theorem Calm.shape {q : Nat} (hq : ∃ a,(q,a)∈acc i) : Alk (geta (st i).obs q) (atD (fun m => geta (st m).obs q) (wrO acc q) D L.length) := by
  obtain ⟨a,ha⟩ := hq
  by_cases hr : ∃ a,(q,a)∈acc i∧a ≠ .m
  · rw [Q.object hcl hi hget hDi hrd hr];exact Alk.refl _
  · have ham : a = .m := by
      cases a with
      | m => rfl
      | _ => exact absurd ⟨_,ha,by simp⟩ hr
    subst ham
    have clash : ∀ {b : Acc},isX b = true→Acc.clash .m b = true∧b.clash .m = true := by
      intro b hb
      cases b <;> simp_all [isX,Acc.clash]
    have cw : ∀ {b d : Acc},isX b = true→isW d = true→d.clash b = true := by
      intro b d hb hd
      cases b <;> cases d <;> simp_all [isX,isW,Acc.clash]
    refine atD_shape (c:=fun m => geta (st m).obs q) (r:=Alk) Alk.refl Alk.symm Alk.trans (X:=wrX acc q) ?_ (fun m hm hx => (Q.step hm).2.1 q hx) hi hDi ?_ ?_ ?_ ?_
    · intro m hm
      obtain ⟨b,hb,hx⟩ := wrX_spec.1 hm
      exact wrO_spec.2 ⟨b,hb,isX_isW Q hx⟩
    · cases hx : wrX acc q i with
      | false => rfl
      | true =>
        obtain ⟨b,hb,hxb⟩ := wrX_spec.1 hx
        exact absurd ⟨b,hb,by intro e;subst e;cases hxb⟩ hr
    · intro m hm hx
      obtain ⟨b,hb,hxb⟩ := wrX_spec.1 hx
      exact Q.pred hcl hi hget hDi hrd (Q.obj hm hi ha hb (clash hxb).1)
    · intro m h1 h2 hd
      cases hx : wrX acc q m with
      | false => rfl
      | true =>
        obtain ⟨b,hb,hxb⟩ := wrX_spec.1 hx
        have := Q.down hcl hd (Q.obj h1 h2 hb ha (clash hxb).2)
        rw [hDi] at this;cases this
    · intro k m h1 h2 hx hd hw
      obtain ⟨b,hb,hxb⟩ := wrX_spec.1 hx
      obtain ⟨d,hd',hwd⟩ := wrO_spec.1 hw
      exact Q.down hcl hd (Q.obj h1 h2 hd' hb (cw hxb hwd))
variable {D' : Nat→Bool} (hD' : ∀ m,D' m = (D m || decide (m = i)))
include hD'
theorem Calm.slot' (t : Nat) : atD (fun m => geta (st m).env t) (wrT L t) D' L.length = if wrT L t i = true then geta (st (i + 1)).env t else atD (fun m => geta (st m).env t) (wrT L t) D L.length := by
  split
  · rename_i hw
    refine atD_put (c:=fun m => geta (st m).env t) hw hi (by rw [hD'];simp) ?_
    intro m h1 h2 hwm
    have hgm : L[m]? = some L[m] := List.getElem?_eq_getElem h2
    unfold wrT at hw hwm
    rw [hgm] at hwm
    rw [hget] at hw
    simp only [Option.bind_some,decide_eq_true_eq] at hw hwm
    rw [hD']
    cases hd : D m with
    | false => simp;omega
    | true =>
      have := Q.down hcl hd (Q.temp h1 h2 hget hgm (.inr ⟨t,hwm,by unfold namesE;rw [hw];simp⟩))
      rw [hDi] at this;cases this
  · rename_i hw
    refine atD_same fun m hm => ?_
    rw [hD']
    by_cases e : m = i
    · subst e
      simp only [Bool.not_eq_true] at hw
      rw [hw];simp
    · simp [e]
theorem Calm.object' (q : Nat) : atD (fun m => geta (st m).obs q) (wrO acc q) D' L.length = if wrO acc q i = true then geta (st (i + 1)).obs q else atD (fun m => geta (st m).obs q) (wrO acc q) D L.length := by
  split
  · rename_i hw
    refine atD_put (c:=fun m => geta (st m).obs q) hw hi (by rw [hD'];simp) ?_
    intro m h1 h2 hwm
    obtain ⟨a,ha,hwa⟩ := wrO_spec.1 hw
    obtain ⟨b,hb,hwb⟩ := wrO_spec.1 hwm
    have cw : b.clash a = true := by cases a <;> cases b <;> simp_all [isW,Acc.clash]
    rw [hD']
    cases hd : D m with
    | false => simp;omega
    | true =>
      have := Q.down hcl hd (Q.obj h1 h2 hb ha cw)
      rw [hDi] at this;cases this
  · rename_i hw
    refine atD_same fun m hm => ?_
    rw [hD']
    by_cases e : m = i
    · subst e
      simp only [Bool.not_eq_true] at hw
      rw [hw];simp
    · simp [e]
end
def DInv (F : Fix) (L : List Oper) (base : Nat) (st : Nat→St) (acc : Nat→List (Nat × Acc)) (D : Nat→Bool) (a : Act) (w : World) : Prop :=
  ∃ σ sh u h fp,Sim F.w0 F.fa sh u h fp σ a.tmps w∧Held F sh u h a∧(∀ q,u q→q < base∨∃ i,i < L.length∧D i = true∧base + 32 * i≤q∧q < base + 32 * i + 32) ∧
    (∀ t,geta σ.env t = atD (fun m => geta (st m).env t) (wrT L t) D L.length)∧∀ q,geta σ.obs q = atD (fun m => geta (st m).obs q) (wrO acc q) D L.length
section
variable {P : Program} {cfg : Cfg} {call : Call} {ops : Array Oper} {base : Nat} {st : Nat→St} {val : Nat→V} {acc : Nat→List (Nat × Acc)} {act : Nat→Bool}
theorem draw_step (C : CfgOK P cfg) (K : CallOK P call) (hI : ∀ f vs s id,call.i f vs s id = none) (Q : Calm call cfg ops.toList base st val acc act) {F : Fix} (hb : F.b0≤base) (hd : ∀ x∈ops.toList,dstOk F.n x = true) {D D' : Nat→Bool}
    (hcl : ∀ j o,D j = true→ops.toList[j]? = some o→∀ e∈o.after.toList,Region.binds .any e = true→D e.on = true) {i : Nat} {o : Oper} (hi : i < ops.toList.length) (hget : ops.toList[i]? = some o) (hDi : D i = false)
    (hrd : ∀ e∈o.after.toList,Region.binds .any e = true→D e.on = true) (hD' : ∀ m,D' m = (D m || decide (m = i))) {R : Exit→Act→World→Prop} {K' : Act→World→Prop} {a : Act} {w : World} (I : DInv F ops.toList base st acc D a w)
    (hK : ∀ a' w',DInv F ops.toList base st acc D' a' w'→K' a' w') : wpOp P ops R i K' a w := by
  obtain ⟨σ,sh,u,h,fp,S,H,hu,he,ho⟩ := I
  have hmem : o∈ops.toList := List.mem_of_getElem? hget
  have hget' : ops[i]? = some o := by rw [← hget];simp
  have slots : ∀ t∈namesE ops.toList o,geta σ.env t = geta (st i).env t := fun t ht => (he t).trans (Q.slot hcl hi hget hDi hrd ht)
  have hguard : guardE ops.toList σ.env o.guard = some (act i) := by
    have hg := Q.run.guard i o (Nat.zero_le _) hi hget
    rw [← hg]
    unfold guardE
    cases hgd : o.guard with
    | none => rfl
    | some p =>
      obtain ⟨j,want⟩ := p
      simp only
      cases hj : (ops.toList[j]?).bind (·.dst) with
      | none => rfl
      | some t =>
        simp only [Option.bind_some]
        rw [slots t (by unfold namesE;rw [hgd];simp only [hj];simp)]
  have hw := guard_sound S hguard hd H.n
  have hobs' : ∀ (s : St) (d : Option Nat) (v : V),(s.put d v).obs = s.obs := fun s d v => by cases d <;> rfl
  have envs : ∀ {σ' s' : St} {v : V},σ'.env = σ.env→st (i + 1) = s'.put o.dst v→∀ t,geta (σ'.put o.dst v).env t = atD (fun m => geta (st m).env t) (wrT ops.toList t) D' ops.toList.length := by
    intro σ' s' v h1 h2 t
    rw [Q.slot' hcl hi hget hDi hrd hD' t]
    split
    · rename_i ht
      unfold wrT at ht
      rw [hget] at ht
      simp only [Option.bind_some,decide_eq_true_eq] at ht
      rw [h2,ht]
      simp only [St.put,geta_puta_self]
    · rename_i ht
      unfold wrT at ht
      rw [hget] at ht
      simp only [Option.bind_some,decide_eq_true_eq] at ht
      rw [← he t,← h1]
      cases hdd : o.dst with
      | none => rfl
      | some d =>
        have e : t ≠ d := fun e => ht (by rw [hdd,e])
        simp only [St.put,geta_puta_ne e]
  unfold wpOp
  rw [hget']
  simp only
  rw [hw]
  cases hact : act i with
  | true =>
    rw [if_pos rfl]
    left
    obtain ⟨mid,h1,h2,h3⟩ := Q.run.on i o (Nat.zero_le _) hi hget hact
    have hm : May (fun o => ∃ a,(o,a)∈acc i∧a ≠ .m) (fun o => wrO acc o i = true) (fun o => wrX acc o i = true) (accE cfg (base + 32 * i) base (st i) (val i) o.op) := fun q b hb => Q.may i q b (by rw [h3];exact hb)
    have hL := opE_local hI h1 (R:=fun o => ∃ a,(o,a)∈acc i∧a ≠ .m) (W:=fun o => wrO acc o i = true) (X:=fun o => wrX acc o i = true) hm
    obtain ⟨σ',k1,k2,k3⟩ := hL.ag σ (fun q hq => (ho q).trans (Q.object hcl hi hget hDi hrd hq)) (fun t ht => slots t (by unfold namesE;simp [ht])) (fun q hq => by
      rw [ho q]
      exact Q.shape hcl hi hget hDi hrd ⟨.m,by rw [h3];exact hq⟩)
    have hD := op_sound (o:=o) (id:=base + 32 * i) (base:=base) C K hI S (v:=val i) (s' := σ') k1 (fun q hq1 hq2 huq => by
      rcases hu q huq with hq | ⟨j,_,hj,h1,h2⟩
      · omega
      · have : j = i := by omega
        subst this;rw [hDi] at hj;cases hj)
    refine hD _ _ (fun x w' hT => ?_)
    obtain ⟨sh',u',h',fp',S',rx,hmx,hu',hs1,hs2,hle,huu⟩ := hT
    refine hK _ _ ⟨σ'.put o.dst (val i),sh',u',h',fp',sim_put S' (dstOk_lt (hd o hmem) H.n) hmx rx,H.put (id:=base) (fun o ho => (hu' o ho).imp_right (fun k => by omega)) hb hs1 hs2 hle huu put_size put_defers,fun q hq => ?_,envs k3.env h2,fun q => ?_⟩
    · rcases hu' q hq with hq | hq
      · rcases hu q hq with hq | ⟨j,j1,j2,j3,j4⟩
        · exact .inl hq
        · exact .inr ⟨j,j1,by rw [hD',j2];rfl,j3,j4⟩
      · exact .inr ⟨i,hi,by rw [hD'];simp,hq.1,hq.2⟩
    · rw [hobs',Q.object' hcl hi hget hDi hrd hD' q]
      split
      · rename_i hwq
        rw [h2,hobs']
        obtain ⟨b,hb,hwb⟩ := wrO_spec.1 hwq
        exact k2 q ⟨b,hb,by intro e;subst e;cases hwb⟩
      · rename_i hwq
        rw [k3.w q hwq,ho q]
  | false =>
    simp only [Bool.false_eq_true,if_false]
    obtain ⟨h1,h2,h3⟩ := Q.run.off i o (Nat.zero_le _) hi hget hact
    refine hK _ _ ⟨σ.put o.dst (.iop .und),sh,u,h,fp,sim_put S (dstOk_lt (hd o hmem) H.n) (by intro q hq;cases hq) rfl,H.put (id:=base) (fun o ho => .inl ho) hb (fun _ h => h) (fun _ h => .inl h) (Hs.Le.refl u h) (fun _ h => h) put_size put_defers,fun q hq => ?_,envs rfl h1,fun q => ?_⟩
    · rcases hu q hq with hq | ⟨j,j1,j2,j3,j4⟩
      · exact .inl hq
      · exact .inr ⟨j,j1,by rw [hD',j2];rfl,j3,j4⟩
    · rw [hobs',Q.object' hcl hi hget hDi hrd hD' q,ho q]
      rw [if_neg]
      intro e
      obtain ⟨b,hb,_⟩ := wrO_spec.1 e
      rw [h2] at hb;cases hb
def left (n : Nat) (D : Nat→Bool) : Nat := ((List.range n).filter fun i => !D i).length
theorem left_zero {n : Nat} {D : Nat→Bool} (h : left n D = 0) : ∀ i,i < n→D i = true := by
  intro i hi
  unfold left at h
  have := List.length_eq_zero_iff.1 h
  cases hd : D i with
  | true => rfl
  | false =>
    have hm : i∈(List.range n).filter fun i => !D i := List.mem_filter.2 ⟨List.mem_range.2 hi,by simp [hd]⟩
    rw [this] at hm;cases hm
theorem left_less {n : Nat} {D D' : Nat→Bool} {i : Nat} (hi : i < n) (hDi : D i = false) (hD' : ∀ m,D' m = (D m || decide (m = i))) : left n D = left n D' + 1 := by
  unfold left
  have key : ∀ l : List Nat,l.Nodup→(l.filter fun j => !D j).length = (l.filter fun j => !D' j).length + (if i∈l then 1 else 0) := by
    intro l hl
    induction l with
    | nil => rfl
    | cons x r ih =>
      obtain ⟨h1,h2⟩ := List.nodup_cons.1 hl
      have ih := ih h2
      by_cases e : x = i
      · subst e
        have e1 : (!D x) = true := by rw [hDi];rfl
        have e2 : ¬ (!D' x) = true := by rw [hD'];simp
        rw [List.filter_cons_of_pos (p:=fun j => !D j) e1,List.filter_cons_of_neg (p:=fun j => !D' j) e2,List.length_cons,ih,if_neg h1,if_pos (List.mem_cons_self ..)]
      · have e3 : (!D' x) = (!D x) := by rw [hD'];simp [e]
        have e4 : (i∈x :: r)↔i∈r := by simp [Ne.symm e]
        simp only [List.filter_cons,e3,e4]
        split
        · simp only [List.length_cons,ih];omega
        · exact ih
  have := key (List.range n) List.nodup_range
  rw [if_pos (List.mem_range.2 hi)] at this
  exact this
theorem draw_any (C : CfgOK P cfg) (K : CallOK P call) (hI : ∀ f vs s id,call.i f vs s id = none) (Q : Calm call cfg ops.toList base st val acc act) {F : Fix} (hb : F.b0≤base) (hd : ∀ x∈ops.toList,dstOk F.n x = true) {R : Exit→Act→World→Prop}
    (hR : ∀ a w,(∃ D : Nat→Bool,(∀ i,i < ops.toList.length→D i = true)∧DInv F ops.toList base st acc D a w)→R .normal a w) : ∀ (fuel : Nat) (listed : Array Bool) (a : Act) (w : World),listed.size = ops.size →
    (∀ j o,listed.getD j false = true→ops.toList[j]? = some o→∀ e∈o.after.toList,Region.binds .any e = true→listed.getD e.on false = true)→left ops.size (fun i => listed.getD i false) = fuel →
    DInv F ops.toList base st acc (fun i => listed.getD i false) a w→wpAny P .any ops R fuel listed a w := by
  have hlen : ops.toList.length = ops.size := by simp
  have bool_get : ∀ (listed : Array Bool),listed.size = ops.size→∀ j,j < ops.size→listed.getD j true = listed.getD j false := by
    intro l hs j hj
    simp [Array.getD_eq_getD_getElem?,Array.getElem?_eq_getElem (show j < l.size by omega)]
  intro fuel
  induction fuel with
  | zero =>
    intro listed a w hs hcl hf I
    have hall := left_zero hf
    refine ⟨?_,hR a w ⟨_,fun i hi => hall i (by omega),I⟩⟩
    apply List.eq_nil_iff_forall_not_mem.2
    intro j hj
    obtain ⟨h1,o,h2,_⟩ := mem_ready.1 hj
    have hjl : j < ops.size := (Array.getElem?_eq_some_iff.1 h2).1
    rw [bool_get listed hs j hjl,hall j hjl] at h1
    cases h1
  | succ fuel ih =>
    intro listed a w hs hcl hf I
    refine ⟨fun hnil => ?_,fun i hi => ?_⟩
    · -- some step is ready
      exfalso
      have hex : ∃ j,j < ops.size∧listed.getD j false = false := by
        by_cases h : ∃ j,j < ops.size∧listed.getD j false = false
        · exact h
        · exfalso
          have : left ops.size (fun i => listed.getD i false) = 0 := by
            unfold left
            rw [List.length_eq_zero_iff]
            apply List.eq_nil_iff_forall_not_mem.2
            intro j hj
            obtain ⟨h1,h2⟩ := List.mem_filter.1 hj
            exact h ⟨j,List.mem_range.1 h1,by simpa using h2⟩
          omega
      have least : ∀ n,(∃ j,j≤n∧j < ops.size∧listed.getD j false = false)→∃ j,j < ops.size∧listed.getD j false = false∧∀ k,k < j→listed.getD k false = true := by
        intro n
        induction n with
        | zero =>
          rintro ⟨j,h1,h2,h3⟩
          exact ⟨j,h2,h3,fun k hk => by omega⟩
        | succ n ihn =>
          rintro ⟨j,h1,h2,h3⟩
          by_cases hl : ∃ k,k≤n∧k < ops.size∧listed.getD k false = false
          · exact ihn hl
          · refine ⟨j,h2,h3,fun k hk => ?_⟩
            cases hk' : listed.getD k false with
            | true => rfl
            | false => exact absurd ⟨k,by omega,by omega,hk'⟩ hl
      obtain ⟨j0,h1,h2⟩ := hex
      obtain ⟨j,h3,h4,h5⟩ := least j0 ⟨j0,Nat.le_refl _,h1,h2⟩
      have hgj : ops[j]? = some ops[j] := Array.getElem?_eq_getElem h3
      have hm : j∈Region.ready .any ops listed := by
        refine mem_ready.2 ⟨by rw [bool_get listed hs j h3];exact h4,ops[j],hgj,fun e he hb => ?_⟩
        exact h5 e.on (Q.edge (by rw [← hgj];simp) (by simpa using he) hb)
      rw [hnil] at hm;cases hm
    · obtain ⟨h1,o,h2,h3⟩ := mem_ready.1 hi
      have hil : i < ops.size := (Array.getElem?_eq_some_iff.1 h2).1
      have hDi : listed.getD i false = false := by rw [← bool_get listed hs i hil];exact h1
      have hD' : ∀ m,(listed.setIfInBounds i true).getD m false = (listed.getD m false || decide (m = i)) := by
        intro m
        by_cases e : m = i
        · subst e
          simp [Array.getD_eq_getD_getElem?,Array.getElem?_setIfInBounds_self_of_lt (show m < listed.size by omega)]
        · rw [getD_set_ne false (Ne.symm e)];simp [e]
      have hget : ops.toList[i]? = some o := by rw [← h2];simp
      have hrd : ∀ e∈o.after.toList,Region.binds .any e = true→listed.getD e.on false = true := fun e he hb => h3 e (by simpa using he) hb
      refine draw_step C K hI Q hb hd (D:=fun i => listed.getD i false) (D' := fun m => (listed.setIfInBounds i true).getD m false) hcl (by omega) hget hDi hrd hD' I (fun a' w' I' => ?_)
      refine ih (listed.setIfInBounds i true) a' w' (by simpa using hs) ?_ ?_ I'
      · intro j o' hj ho' e he hb
        rw [hD'] at hj ⊢
        simp only [Bool.or_eq_true,decide_eq_true_eq] at hj ⊢
        rcases hj with hj | hj
        · exact .inl (hcl j o' hj ho' e he hb)
        · subst hj
          rw [hget] at ho';cases ho'
          exact .inl (hrd e he hb)
      · have := left_less (n:=ops.size) (D:=fun i => listed.getD i false) (D' := fun m => (listed.setIfInBounds i true).getD m false) hil hDi hD'
        omega
theorem draw_ok (C : CfgOK P cfg) (hm : P.follows .mixedOrders = true) {call : Call} (K : CallOK P call) : DrawOK P cfg call := by
  intro F id ops s s' a w hd ht I he
  obtain ⟨sh,u,h,fp,S,hu,H,hb⟩ := I
  have K' : CallOK P call.noI := fun f args v outs h => K f args v outs h
  unfold regionE at he
  cases ho : opsE call cfg true ops.toList s.nxt 0 ops.toList s [] with
  | none => rw [ho] at he;cases he
  | some r =>
    rw [ho] at he
    simp only [Bool.true_eq_false,false_or,if_true] at he
    split at he
    · rename_i hcalm
      simp only [Option.some.injEq] at he
      subst he
      obtain ⟨st,val,acc,act,Rn,e0,e1,etr⟩ := run_of ops.toList [] (s:=s) rfl ho
      simp only [List.length_nil,Nat.zero_add] at Rn e0 e1 etr
      rw [List.append_nil] at etr
      have Q : Calm call.noI cfg ops.toList s.nxt st val acc act := by
        refine ⟨Rn,fun i j h1 h2 => ?_,ht,fun _ _ _ _ => rfl⟩
        rw [etr] at hcalm
        have hk : ops.toList.length = (ops.toList.length - 1) + 1 := by omega
        rw [hk] at hcalm
        simp only [Nat.add_sub_cancel] at hcalm
        exact calm_spec (bits:=beforeE ops.toList 0 ops.toList []) hcalm i j h1 (by omega)
      refine wp_region_any hm ?_
      have none_listed : ∀ i,(Array.replicate ops.size false).getD i false = false := by
        intro i
        rw [Array.getD_eq_getD_getElem?]
        by_cases hi : i < ops.size
        · simp [hi]
        · simp [hi]
      refine draw_any C K' (fun _ _ _ _ => rfl) Q (F:=F) hb hd ?_ ops.size (Array.replicate ops.size false) a { w with drawn := w.drawn + 1 } (by simp) (fun j o hj => by rw [none_listed j] at hj;cases hj) ?_ ?_
      · rintro a1 w1 ⟨D,hD,σ,sh1,u1,h1,fp1,S1,H1,hu1,hen,hob⟩
        refine ⟨rfl,sh1,u1,h1,fp1,S1.same (fun t => ?_) (fun q => ?_),fun q hq => ?_,H1,(by show F.b0≤s.nxt + 32 * ops.toList.length;omega)⟩
        · rw [hen t,atD_all (c:=fun m => geta (st m).env t) (fun m hm hw => (Q.step hm).2.2 t hw) hD,e1]
        · rw [hob q,atD_all (c:=fun m => geta (st m).obs q) (fun m hm hw => (Q.step hm).1 q hw) hD,e1]
        · show q < s.nxt + 32 * ops.toList.length
          rcases hu1 q hq with hq | ⟨i,h1,_,_,h4⟩
          · omega
          · omega
      · unfold left
        have : ((List.range ops.size).filter fun i => !(Array.replicate ops.size false).getD i false) = List.range ops.size := by
          apply List.filter_eq_self.2
          intro i _
          rw [none_listed i];rfl
        rw [this];simp
      · refine ⟨s,sh,u,h,fp,?_,H,fun q hq => .inl (hu q hq),fun t => ?_,fun q => ?_⟩
        · refine ⟨⟨S.size.sz,S.size.os,S.size.out⟩,S.old,?_,S.own,S.apart,S.shr,?_⟩
          · intro o ob e
            obtain ⟨k1,k2⟩ := S.obs o ob e
            exact ⟨k1,k2.keep (show Goes u h sh w h sh { w with drawn := w.drawn + 1 } from ⟨Hs.Le.refl u h,fun b hb => ⟨hb,rfl⟩⟩) (fun _ h => h) k1 rfl (fun _ _ => rfl)⟩
          · intro t v e
            obtain ⟨k1,k2⟩ := S.env t v e
            exact ⟨k1,k2.keep (show Goes u h sh w h sh { w with drawn := w.drawn + 1 } from ⟨Hs.Le.refl u h,fun b hb => ⟨hb,rfl⟩⟩) k1⟩
        · rw [atD_of (c:=fun m => geta (st m).env t) (i:=0) (fun m hm hw => (Q.step hm).2.2 t hw) (fun m hm => by omega) (fun m _ _ _ => none_listed m) (Nat.zero_le _),e0]
        · rw [atD_of (c:=fun m => geta (st m).obs q) (i:=0) (fun m hm hw => (Q.step hm).1 q hw) (fun m hm => by omega) (fun m _ _ _ => none_listed m) (Nat.zero_le _),e0]
    · cases he
theorem ev_sound {ext : Call} (C : CfgOK P cfg) (B : CodeOKs cfg) (hm : P.follows .mixedOrders = true) (E : CallOK P ext) : CallOK P (lim ext cfg).call :=
  lim_sound C B E (fun _ K => draw_ok C hm K)
end
end Go.Proofs.Ytbcgenkegnmkhaa.Ev
namespace Go.Proofs.Ytbcgenkegnmkhaa.Ev
open Go
set_option linter.unusedSectionVars false
set_option linter.unusedSimpArgs false
def oneB : Value→Bool
  | .agg _ => false
  | .tuple _ => false
  | _ => true
mutual
def zeroV (P : Program) : Nat→TypeId→Option V
  | 0,_ => none
  | n + 1,t => match P.underlying t with
    | some .bool => some (.bool false)
    | some (.int k) => some (.int k 0)
    | some (.slice e) => match P.info? e with
      | none => none
      | some i => some (.lst true i.size [])
    | some (.struct fs) => mp (zeroL P n (fs.toList.map (·.type))) .agg
    | some (.pointer _) => some .und
    | some (.func ..) => some .und
    | some .string => some .und
    | _ => none
def zeroL (P : Program) : Nat→List TypeId→Option (List V)
  | _,[] => some []
  | 0,_ => none
  | n + 1,t :: r => match zeroV P n t with
    | none => none
    | some z => mp (zeroL P n r) fun l => z :: l
end
mutual
def eat : V→List Value→Option (List Value)
  | .int k n,c :: r => match c with
    | .int k' n' => if k = k'∧n = n' then some r else none
    | _ => none
  | .bool b,c :: r => match c with
    | .bool b' => if b = b' then some r else none
    | _ => none
  | .lst true _ [],c :: r => match c with
    | .slice none 0 0 => some r
    | _ => none
  | .und,c :: r => if oneB c = true then some r else none
  | .agg xs,cs => eatL xs cs
  | _,_ => none
def eatL : List V→List Value→Option (List Value)
  | [],cs => some cs
  | x :: q,cs => match eat x cs with
    | none => none
    | some r => eatL q r
end
mutual
theorem eat_rel {h : Hs} {sh : Nat→Prop} {w : World} : ∀ {v : V} {cs r : List Value},eat v cs = some r→∃ d,cs = d ++ r∧Rel h sh w v d []∧v.mention = []
  | .int k n,[],r,e => by simp [eat] at e
  | .int k n,c :: q,r,e => by
    simp only [eat] at e
    split at e
    · split at e
      · rename_i hc
        cases e
        obtain ⟨rfl,rfl⟩ := hc
        exact ⟨[_],rfl,by simp [Rel],rfl⟩
      · cases e
    · cases e
  | .bool b,[],r,e => by simp [eat] at e
  | .bool b,c :: q,r,e => by
    simp only [eat] at e
    split at e
    · split at e
      · rename_i hc
        cases e
        subst hc
        exact ⟨[_],rfl,by simp [Rel],rfl⟩
      · cases e
    · cases e
  | .lst own sz xs,cs,r,e => by
    cases own
    · simp [eat] at e
    · cases xs with
      | cons x q => simp [eat] at e
      | nil =>
        cases cs with
        | nil => simp [eat] at e
        | cons c q =>
          simp only [eat] at e
          split at e
          · cases e
            exact ⟨[_],rfl,by simp [Rel],rfl⟩
          · cases e
  | .und,[],r,e => by simp [eat] at e
  | .und,c :: q,r,e => by
    simp only [eat] at e
    split at e
    · rename_i hc
      cases e
      refine ⟨[c],rfl,?_,rfl⟩
      simp only [Rel]
      exact ⟨trivial,c,rfl,by cases c <;> first | trivial | (simp [oneB] at hc)⟩
    · cases e
  | .agg xs,cs,r,e => by
    simp only [eat] at e
    obtain ⟨d,e1,r1,m1⟩ := eatL_rel e
    exact ⟨d,e1,by simp only [Rel];exact r1,by simp only [V.mention];exact m1⟩
  | .str _,cs,r,e => by simp [eat] at e
  | .emp _,cs,r,e => by simp [eat] at e
  | .tup _,cs,r,e => by simp [eat] at e
  | .ref ..,cs,r,e => by simp [eat] at e
  | .plc ..,cs,r,e => by simp [eat] at e
  | .ptr ..,cs,r,e => by simp [eat] at e
  | .vptr _,cs,r,e => by simp [eat] at e
  | .clo ..,cs,r,e => by simp [eat] at e
  | .iol ..,cs,r,e => by simp [eat] at e
  | .iop _,cs,r,e => by simp [eat] at e
theorem eatL_rel {h : Hs} {sh : Nat→Prop} {w : World} : ∀ {xs : List V} {cs r : List Value},eatL xs cs = some r→∃ d,cs = d ++ r∧RelA h sh w xs d []∧V.mentionL xs = []
  | [],cs,r,e => by simp only [eatL,Option.some.injEq] at e;subst e;exact ⟨[],rfl,⟨rfl,rfl⟩,rfl⟩
  | x :: q,cs,r,e => by
    simp only [eatL] at e
    split at e
    · cases e
    · rename_i r1 h1
      obtain ⟨d1,e1,k1,m1⟩ := eat_rel h1
      obtain ⟨d2,e2,k2,m2⟩ := eatL_rel e
      refine ⟨d1 ++ d2,by rw [e1,e2,List.append_assoc],?_,by simp only [V.mentionL,m1,m2,List.append_nil]⟩
      simp only [RelA]
      exact ⟨d1,d2,[],[],rfl,rfl,k1,k2⟩
end
def kindOk (d : TypeDesc) (z : V) : Bool :=
  match z with
  | .agg _ => match d with
    | .struct _ => true
    | _ => false
  | .bool _ => match d with
    | .bool => true
    | _ => false
  | _ => !aggD d
def shapeOk (zv : Value) (z : V) : Bool :=
  match zv with
  | .agg _ => z.aggOf.isSome
  | _ => z.aggOf.isNone
def zeroOk (i : TypeInfo) (d : TypeDesc) (zv : Value) (z : V) : Bool :=
  ((eat z zv.cells.toList).elim false List.isEmpty) && decide (i.size = z.cells) && decide (0 < z.cells) && decide (i.bytes≤65536) && kindOk d z && shapeOk zv z
structure Tab where
  md : FuncId→List Md
  keep : FuncId→Nat→Option (List Nat)
  out : FuncId→Nat→Option (List Nat)
  nils : FuncId→Bool
  inB : FuncId→Bool
  plB : FuncId→Bool
  hsB : FuncId→Bool
  fsB : FuncId→Bool
  alR : FuncId→Nat→Nat
def fnOk (fn : Func) : Bool :=
  (match fn.body with
  | none => true
  | some c => codeOk fn.ntmps c && decide ((loopKeys c).Nodup)) && !(fn.name == "runtime.NumGoroutine")
def fldOk (P : Program) (fs : Array Field) : Bool := fs.toList.all fun f => (P.info? f.type).isSome
def cfgOf (P : Program) (T : Tab) : Cfg where
  flds t := match P.underlying t with
    | some (.struct fs) => if fldOk P fs = true then some (fs.toList.map fun f => (f.offset,f.type)) else none
    | _ => none
  elem t := match P.underlying t with
    | some (.slice e) => some e
    | _ => none
  zero t := match P.info? t with
    | none => none
    | some i => match P.underlying t with
      | none => none
      | some d => match i.zero with
        | none => none
        | some zv => match zeroV P 9 t with
          | none => none
          | some z => if zeroOk i d zv z = true then some z else none
  md := T.md
  keep := T.keep
  out := T.out
  code f := match P.funcs[f]? with
    | none => none
    | some fn => if fnOk fn = true then some fn else none
  nils := T.nils
  ints t := match P.underlying t with
    | some (.int k) => some k
    | _ => none
  inB := T.inB
  plB := T.plB
  hsB := T.hsB
  fsB := T.fsB
  alR := T.alR
theorem cfg_ok (P : Program) (T : Tab) : CfgOK P (cfgOf P T) where
  zero t z hz := by
    simp only [cfgOf] at hz
    split at hz
    · cases hz
    · rename_i i hi
      split at hz
      · cases hz
      · rename_i d hd
        split at hz
        · cases hz
        · rename_i zv hzv
          split at hz
          · cases hz
          · rename_i z' hz'
            split at hz
            · rename_i hok
              cases hz
              unfold zeroOk at hok
              simp only [Bool.and_eq_true,decide_eq_true_eq] at hok
              obtain ⟨⟨⟨⟨⟨h1,h2⟩,h3⟩,h4⟩,h5⟩,h6⟩ := hok
              have he : eat z zv.cells.toList = some [] := by
                cases hx : eat z zv.cells.toList with
                | none => rw [hx] at h1;cases h1
                | some r => rw [hx] at h1;simp only [Option.elim_some,List.isEmpty_iff] at h1;rw [h1]
              refine ⟨i,zv,d,hi,hzv,h2,h3,h4,hd,?_,?_,?_,?_,?_,?_⟩
              · unfold kindOk at h5
                split at h5
                · split at h5
                  · exact .inl ⟨⟨_,rfl⟩,rfl⟩
                  · cases h5
                · split at h5
                  · exact .inr ⟨rfl,rfl⟩
                  · cases h5
                · rename_i n1 n2
                  refine .inr ⟨by simpa using h5,?_⟩
                  cases hz2 : z.aggOf with
                  | none => rfl
                  | some xs => exact absurd (aggOf_some hz2) (n1 xs)
              · intro b hb
                subst hb
                unfold kindOk at h5
                simp only at h5
                split at h5
                · rfl
                · cases h5
              · exact (eat_rel (h:=⟨fun _ => none,fun _ _ _ => 0,fun _ => 0,fun _ _ _ _ => none,fun _ _ _ _ => 0⟩) (sh:=fun _ => False) (w:=default) he).choose_spec.2.2
              · intro h sh w
                obtain ⟨d',e1,r1,_⟩ := eat_rel (h:=h) (sh:=sh) (w:=w) he
                rw [e1,List.append_nil];exact r1
              · intro ha
                unfold shapeOk at h6
                split at h6
                · exact ⟨_,rfl⟩
                · rw [Option.isNone_iff_eq_none] at h6;rw [h6] at ha;cases ha
              · intro ha
                unfold shapeOk at h6
                split at h6
                · rw [ha] at h6;cases h6
                · cases zv <;> first | rfl | (rename_i hn;exact absurd rfl (hn _))
            · cases hz
  elem t e h := by
    simp only [cfgOf] at h
    split at h
    · rename_i hu;cases h;exact hu
    · cases h
  flds t fs h := by
    simp only [cfgOf] at h
    split at h
    · rename_i fields hu
      split at h
      · rename_i hf
        cases h
        refine ⟨fields,hu,rfl,fun f hf' => ?_⟩
        unfold fldOk at hf
        rw [List.all_eq_true] at hf
        exact Option.isSome_iff_exists.1 (hf f hf')
      · cases h
    · cases h
  code f fn h := by
    simp only [cfgOf] at h
    split at h
    · cases h
    · rename_i fn' hf
      split at h
      · cases h;exact hf
      · cases h
  ints t k h := by
    simp only [cfgOf] at h
    split at h
    · rename_i hu;cases h;exact hu
    · cases h
theorem codes_ok (P : Program) (T : Tab) : CodeOKs (cfgOf P T) where
  ok f fn c h hb := by
    simp only [cfgOf] at h
    split at h
    · cases h
    · split at h
      · rename_i hk
        cases h
        unfold fnOk at hk
        rw [hb] at hk
        simp only [Bool.and_eq_true,decide_eq_true_eq] at hk
        exact hk.1
      · cases h
  name f fn h := by
    simp only [cfgOf] at h
    split at h
    · cases h
    · split at h
      · rename_i hk
        cases h
        unfold fnOk at hk
        simp only [Bool.and_eq_true,Bool.not_eq_true'] at hk
        exact hk.2
      · cases h
def noExt : Call := ⟨fun _ _ => none,fun _ _ _ _ => none⟩
noncomputable abbrev Or (P : Program) (T : Tab) : Orc := lim noExt (cfgOf P T)
theorem or_sound {P : Program} (hm : P.follows .mixedOrders = true) (T : Tab) : CallOK P (Or P T).call :=
  ev_sound (cfg_ok P T) (codes_ok P T) hm (fun f args v outs he => by cases he)
theorem or_call {P : Program} {T : Tab} {f : FuncId} {args : List V} {x : V × List V} (h : runE (Or P T) (cfgOf P T) f args = some x) (hn : T.nils f = false) (hh : T.hsB f = false) : (Or P T).call f args = some x := by
  refine lim_call ?_
  show callE (Or P T) (cfgOf P T) f _ = some x
  unfold callE
  have : (cfgOf P T).nils f = false := hn
  have h2 : (cfgOf P T).hsB f = false := hh
  simp only [this,h2,Bool.false_eq_true,if_false,h,mp_some]
theorem or_callH {P : Program} {T : Tab} {f : FuncId} {args : List V} {x : V × List V} (h : runE (Or P T) (cfgOf P T) f args = some x) (hn : T.nils f = false) (hh : T.hsB f = true) (hf : T.fsB f = false) : (Or P T).call f args = some (x.1.half,x.2) := by
  refine lim_call ?_
  show callE (Or P T) (cfgOf P T) f _ = _
  unfold callE
  have : (cfgOf P T).nils f = false := hn
  have h2 : (cfgOf P T).hsB f = true := hh
  have h3 : (cfgOf P T).fsB f = false := hf
  simp only [this,h2,h3,Bool.false_eq_true,if_false,if_true,h,mp_some]
theorem or_callF {P : Program} {T : Tab} {f : FuncId} {args : List V} {x : V × List V} (h : runE (Or P T) (cfgOf P T) f args = some x) (hn : T.nils f = false) (hh : T.hsB f = true) (hf : T.fsB f = true) : (Or P T).call f args = some (x.1.full,x.2) := by
  refine lim_call ?_
  show callE (Or P T) (cfgOf P T) f _ = _
  unfold callE
  have : (cfgOf P T).nils f = false := hn
  have h2 : (cfgOf P T).hsB f = true := hh
  have h3 : (cfgOf P T).fsB f = true := hf
  simp only [this,h2,h3,Bool.false_eq_true,if_false,if_true,h,mp_some]
theorem or_inl {P : Program} {T : Tab} {f : FuncId} (hp : T.plB f = false) {args : List V} {s : St} {id : Nat} {x : V × St} (h : inlE (Or P T).call (cfgOf P T) f args s id = some x) : (Or P T).call.i f args s id = some x := lim_inl hp h
theorem or_loop {P : Program} {T : Tab} {fn : FuncId} {k : Nat} {s : St} {x : Ext × St} (h : loopE (Or P T) (cfgOf P T) fn k s = some x) : (Or P T).loop fn k s = some x := lim_loop h
end Go.Proofs.Ytbcgenkegnmkhaa.Ev
namespace Go.Proofs.Ytbcgenkegnmkhaa.Ev
open Go Go.ChangeShapes Go.WideShapes Go.ChangeAt Go.RowKit
set_option linter.unusedVariables false
set_option linter.unusedSectionVars false
def hasT (P : Program) : Nat→TypeId→V→Prop
  | 0,_,_ => False
  | n + 1,t,v => match P.underlying t with
    | some .bool => ∃ b,v = .bool b
    | some (.int k) => ∃ m,v = .int k m∧(Lit.int k m).wf = true
    | some (.slice e) => ∃ xs,v = .lst false 0 xs∧xs.length≤140737488351232∧∀ x∈xs,hasT P n e x
    | some (.struct fs) => ∃ xs,v = .agg xs∧xs.length = fs.size∧∀ (i : Nat) (f : Field) x,fs.toList[i]? = some f→xs[i]? = some x→hasT P n f.type x
    | _ => False
def layF (P : Program) : Nat→List Field→Nat→Bool
  | off,[],tot => decide (off = tot)
  | off,f :: r,tot => decide (f.offset = off) && layF P (off + P.cellsOf f.type) r tot
def layT (P : Program) : Nat→TypeId→Bool
  | 0,_ => false
  | n + 1,t => match P.underlying t with
    | some .bool => true
    | some (.int _) => true
    | some (.slice e) => decide (0 < P.cellsOf e) && decide (0 < P.bytesOf e) && layT P n e
    | some (.struct fs) => layF P 0 fs.toList (P.cellsOf t) && fs.toList.all fun f => layT P n f.type
    | _ => false
theorem mapM_cons_some {α β : Type} {f : α→Option β} {a : α} {l : List α} {r : List β} (h : (a :: l).mapM f = some r) : ∃ b s,f a = some b∧l.mapM f = some s∧r = b :: s := by
  rw [List.mapM_cons] at h
  cases hf : f a with
  | none => rw [hf] at h;cases h
  | some b =>
    rw [hf] at h
    simp only [Option.bind_eq_bind,Option.bind_some] at h
    cases hl : l.mapM f with
    | none => rw [hl] at h;cases h
    | some s =>
      rw [hl] at h
      simp only [Option.bind_some,Option.pure_def,Option.some.injEq] at h
      exact ⟨b,s,rfl,rfl,h.symm⟩
section
variable {H : Type} {enc : TypeId × Value→H} {P : Program} {w : World} {h : Hs}
def allB (w : World) (b : Nat) : Prop := b < w.heap.size
theorem mapM_range {β : Type} {f : Nat→Option β} : ∀ {n s : Nat} {r : List β},(List.range' s n).mapM f = some r→r.length = n∧∀ j v,r[j]? = some v→f (s + j) = some v
  | 0,s,r,e => by
    simp only [List.range'_zero,List.mapM_nil,Option.pure_def,Option.some.injEq] at e
    subst e
    exact ⟨rfl,fun j v hj => (by cases hj)⟩
  | n + 1,s,r,e => by
    rw [List.range'_succ] at e
    obtain ⟨b,q,h1,h2,rfl⟩ := mapM_cons_some e
    obtain ⟨h3,h4⟩ := mapM_range h2
    refine ⟨by simp [h3],fun j v hj => ?_⟩
    cases j with
    | zero => simp only [List.getElem?_cons_zero,Option.some.injEq] at hj;subst hj;exact h1
    | succ j =>
      simp only [List.getElem?_cons_succ] at hj
      rw [← Nat.add_assoc,Nat.add_right_comm]
      exact h4 j v hj
theorem cell_spot {a : Addr} {v : Value} (hc : w.cell? a = some v) : a.spot = none∧a.block < w.heap.size := by
  unfold World.cell? at hc
  split at hc
  · rename_i c e f hh
    split at hc
    · cases hc
    · rename_i hs
      exact ⟨by simpa using hs,(Array.getElem?_eq_some_iff.1 hh).1⟩
  · cases hc
theorem cells_at {b off n : Nat} {cs : List Value} (hc : w.cells? 0 ⟨b,off,none⟩ n = some cs) : cs.length = n∧At w b off cs := by
  unfold World.cells? at hc
  rw [if_pos (Nat.zero_le _),List.range_eq_range'] at hc
  obtain ⟨h1,h2⟩ := mapM_range hc
  refine ⟨h1,fun i v hi => ?_⟩
  have := h2 i v hi
  rw [add_plain] at this
  simpa using this
theorem rows_rel {fuel n : Nat} {e : TypeId} {b off c : Nat} (hc : c = P.cellsOf e)
    (ih : ∀ cs d ps,DataW.trod enc P w 0 (fun _ => true) true fuel e cs = some (d,ps)→(∀ m∈d.weights P e,m≤reachBytes)→∃ v,hasT P n e v∧v.mention = []∧Rel h (allB w) w v cs []) :
    ∀ {m s : Nat} {r : List (DataW H × List MemPlace)},(List.range' s m).mapM (fun i => (w.cells? 0 (Addr.add ⟨b,off,none⟩ (i * c)) c).bind (DataW.trod enc P w 0 (fun _ => true) true fuel e)) = some r →
      (∀ m∈DataW.weightsAll P e (r.map (·.1)),m≤reachBytes)→∃ xs ds,xs.length = m∧r.length = m∧(∀ x∈xs,hasT P n e x)∧RelL h (allB w) w c xs ds []∧At w b (off + s * c) ds
  | 0,s,r,e,_ => by
    simp only [List.range'_zero,List.mapM_nil,Option.pure_def,Option.some.injEq] at e
    subst e
    exact ⟨[],[],rfl,rfl,fun x hx => (by cases hx),⟨rfl,rfl⟩,fun i v hi => by cases hi⟩
  | m + 1,s,r,e,hw => by
    rw [List.range'_succ] at e
    obtain ⟨x,q,h1,h2,rfl⟩ := mapM_cons_some e
    simp only [List.map_cons,DataW.weightsAll,List.mem_append] at hw
    obtain ⟨xs,ds,l1,l2,l3,l4,l5⟩ := rows_rel hc ih h2 (fun k hk => hw k (.inr hk))
    cases hcs : w.cells? 0 (Addr.add ⟨b,off,none⟩ (s * c)) c with
    | none => rw [hcs] at h1;cases h1
    | some cs =>
      rw [hcs,Option.bind_some] at h1
      rw [add_plain] at hcs
      obtain ⟨k1,k2⟩ := cells_at hcs
      obtain ⟨v,v1,v2,v3⟩ := ih cs x.1 x.2 h1 (fun k hk => hw k (.inl hk))
      refine ⟨v :: xs,cs ++ ds,by simp [l1],by simp [l2],?_,?_,?_⟩
      · intro y hy
        rcases List.mem_cons.1 hy with rfl | hy
        · exact v1
        · exact l3 y hy
      · simp only [RelL]
        exact ⟨cs,ds,[],[],rfl,rfl,k1,v2,v3,l4⟩
      · rw [At.append]
        refine ⟨k2,?_⟩
        rw [k1,Nat.add_assoc,← Nat.succ_mul]
        exact l5
theorem flds_rel {fuel n : Nat} {cs : List Value} {tot : Nat} (hlen : cs.length = tot)
    (ih : ∀ t,layT P n t = true→∀ cs d ps,DataW.trod enc P w 0 (fun _ => true) true fuel t cs = some (d,ps)→(∀ m∈d.weights P t,m≤reachBytes)→∃ v,hasT P n t v∧v.mention = []∧Rel h (allB w) w v cs []) :
    ∀ {fs : List Field} {off : Nat} {r : List (DataW H × List MemPlace)},layF P off fs tot = true→(fs.all fun f => layT P n f.type) = true→fs.mapM (fun f => DataW.trod enc P w 0 (fun _ => true) true fuel f.type ((cs.drop f.offset).take (P.cellsOf f.type))) = some r →
      (∀ m∈DataW.weightsEach P (fs.map (·.type)) (r.map (·.1)),m≤reachBytes)→∃ xs,xs.length = fs.length∧(∀ (i : Nat) (f : Field) x,fs[i]? = some f→xs[i]? = some x→hasT P n f.type x)∧V.mentionL xs = []∧RelA h (allB w) w xs (cs.drop off) []
  | [],off,r,hl,_,e,_ => by
    simp only [layF,decide_eq_true_eq] at hl
    subst hl
    exact ⟨[],rfl,fun i f x hi => (by cases hi),rfl,by simp only [RelA];exact ⟨by rw [← hlen,List.drop_length],trivial⟩⟩
  | f :: fs,off,r,hl,ha,e,hw => by
    simp only [layF,Bool.and_eq_true,decide_eq_true_eq] at hl
    obtain ⟨rfl,hl⟩ := hl
    rw [List.all_cons,Bool.and_eq_true] at ha
    obtain ⟨x,q,h1,h2,rfl⟩ := mapM_cons_some e
    simp only [List.map_cons,DataW.weightsEach,List.mem_append] at hw
    obtain ⟨v,v1,v2,v3⟩ := ih f.type ha.1 _ x.1 x.2 h1 (fun k hk => hw k (.inl hk))
    obtain ⟨xs,l1,l2,l3,l4⟩ := flds_rel hlen ih hl ha.2 h2 (fun k hk => hw k (.inr hk))
    refine ⟨v :: xs,by simp [l1],?_,by simp only [V.mentionL,v2,l3,List.append_nil],?_⟩
    · intro i g y hi hy
      cases i with
      | zero =>
        simp only [List.getElem?_cons_zero,Option.some.injEq] at hi hy
        subst hi;subst hy;exact v1
      | succ i =>
        simp only [List.getElem?_cons_succ] at hi hy
        exact l2 i g y hi hy
    · simp only [RelA]
      refine ⟨_,_,[],[],?_,rfl,v3,l4⟩
      rw [← List.drop_drop,List.take_append_drop]
theorem trod_rel : ∀ (fuel n : Nat) (t : TypeId),layT P n t = true→∀ cs d ps,DataW.trod enc P w 0 (fun _ => true) true fuel t cs = some (d,ps)→(∀ m∈d.weights P t,m≤reachBytes)→∃ v,hasT P n t v∧v.mention = []∧Rel h (allB w) w v cs []
  | 0,_,_,_,_,_,_,e,_ => by simp [DataW.trod] at e
  | _ + 1,0,_,hl,_,_,_,_,_ => by simp [layT] at hl
  | fuel + 1,n + 1,t,hl,cs,d,ps,e,hw => by
    unfold layT at hl
    unfold DataW.trod at e
    unfold hasT
    cases hu : P.underlying t with
    | none => rw [hu] at hl;cases hl
    | some u =>
      rw [hu] at hl e
      cases u with
      | bool =>
        simp only at e ⊢
        split at e
        all_goals first
          | (rename_i hh;cases hh;done)
          | (cases e;done)
          | skip
        rename_i b hh;cases hh;cases e
        exact ⟨.bool b,⟨_,rfl⟩,rfl,by simp [Rel]⟩
      | int k =>
        simp only at e ⊢
        split at e
        all_goals first
          | (rename_i hh;cases hh;done)
          | (cases e;done)
          | skip
        rename_i hh;cases hh
        split at e
        · rename_i h3
          obtain ⟨rfl,h4⟩ := h3
          cases e
          exact ⟨.int _ _,⟨_,rfl,h4⟩,rfl,by simp [Rel]⟩
        · cases e
      | slice el =>
        simp only [Bool.and_eq_true,decide_eq_true_eq] at hl
        simp only at e ⊢
        split at e
        all_goals first
          | (rename_i hh;cases hh;done)
          | (cases e;done)
          | skip
        · rename_i hh
          cases hh
          cases e
          exact ⟨.lst false 0 [],⟨[],rfl,by simp,fun x hx => by cases hx⟩,rfl,by simp only [Rel,Bool.false_eq_true,if_false];exact ⟨trivial,none,0,rfl,Nat.le_refl _,.inl ⟨trivial,by simp⟩⟩⟩
        · rename_i e' a len cap hh
          cases hh
          split at e
          · rename_i h3
            obtain ⟨_,h4,h5⟩ := h3
            cases hm : (List.range len).mapM (fun i => (w.cells? 0 (a.add (i * P.cellsOf el)) (P.cellsOf el)).bind (DataW.trod enc P w 0 (fun _ => true) true fuel el)) with
            | none => simp only [hm] at e;cases e
            | some r =>
              simp only [hm,Option.bind_some,if_true] at e
              cases hr : (List.range (cap - len)).mapM (fun j => (w.cells? 0 (a.add ((len + j) * P.cellsOf el)) (P.cellsOf el)).bind (DataW.trod enc P w 0 (fun _ => true) true fuel el)) with
              | none => simp only [hr] at e;cases e
              | some q =>
                simp only [hr,Option.map_some,Option.some.injEq,Prod.mk.injEq] at e
                obtain ⟨rfl,_⟩ := e
                simp only [DataW.weights,hu,List.mem_cons,List.mem_append] at hw
                have hsz : len≤140737488351232 := by
                  have h6 := hw _ (.inl rfl)
                  rw [List.range_eq_range'] at hm
                  have h7 := (mapM_range hm).1
                  simp only [List.length_map,h7] at h6
                  have h8 : (len + q.length) * 1≤(len + q.length) * P.bytesOf el := Nat.mul_le_mul_left _ hl.1.2
                  have : reachBytes = 140737488351232 := rfl
                  omega
                by_cases hlen : len = 0
                · subst hlen
                  exact ⟨.lst false 0 [],⟨[],rfl,by simp,fun x hx => by cases hx⟩,rfl,by simp only [Rel,Bool.false_eq_true,if_false];exact ⟨trivial,_,cap,rfl,Nat.zero_le _,.inl ⟨trivial,by simp⟩⟩⟩
                · rw [List.range_eq_range'] at hm
                  have hspot : a.spot = none∧a.block < w.heap.size := by
                    obtain ⟨k1,k2⟩ := mapM_range hm
                    cases r with
                    | nil => simp at k1;omega
                    | cons r0 rs =>
                      have h6 := k2 0 r0 rfl
                      cases hc : w.cells? 0 (a.add ((0 + 0) * P.cellsOf el)) (P.cellsOf el) with
                      | none => rw [hc] at h6;cases h6
                      | some c0 =>
                        unfold World.cells? at hc
                        rw [if_pos (Nat.zero_le _),List.range_eq_range'] at hc
                        obtain ⟨j1,j2⟩ := mapM_range hc
                        cases c0 with
                        | nil => simp at j1;omega
                        | cons y ys =>
                          have h7 := j2 0 y rfl
                          have h8 : (a.add ((0 + 0) * P.cellsOf el)).add (0 + 0) = a := by simp [Addr.add]
                          rw [h8] at h7
                          exact cell_spot h7
                  obtain ⟨b,off,sp⟩ := a
                  obtain ⟨hsp,hb⟩ := hspot
                  simp only at hsp hb
                  subst hsp
                  obtain ⟨xs,ds,l1,l2,l3,l4,l5⟩ := rows_rel (h:=h) rfl (fun cs d ps e1 e2 => trod_rel fuel n el hl.2 cs d ps e1 e2) hm (fun k hk => hw k (.inr (.inl hk)))
                  refine ⟨.lst false 0 xs,⟨xs,rfl,by omega,l3⟩,rfl,?_⟩
                  simp only [Rel,Bool.false_eq_true,if_false]
                  refine ⟨trivial,_,cap,by rw [l1],by omega,.inr ⟨b,off,_,ds,rfl,hb,?_,l4⟩⟩
                  simpa using l5
          · cases e
      | struct fs =>
        simp only [Bool.and_eq_true] at hl
        simp only at e ⊢
        split at e
        all_goals first
          | (rename_i hh;cases hh;done)
          | (cases e;done)
          | skip
        · rename_i h3
          · skip
            cases hm : fs.toList.mapM (fun f => DataW.trod enc P w 0 (fun _ => true) true fuel f.type ((cs.drop f.offset).take (P.cellsOf f.type))) with
            | none => simp only [hm] at e;cases e
            | some r =>
              simp only [hm,Option.map_some,Option.some.injEq,Prod.mk.injEq] at e
              obtain ⟨rfl,_⟩ := e
              simp only [DataW.weights,hu] at hw
              obtain ⟨xs,l1,l2,l3,l4⟩ := flds_rel (h:=h) h3 (fun t ht cs d ps e1 e2 => trod_rel fuel n t ht cs d ps e1 e2) hl.1 hl.2 hm hw
              refine ⟨.agg xs,⟨xs,rfl,by simpa using l1,l2⟩,by simp only [V.mention];exact l3,?_⟩
              simp only [Rel]
              simpa using l4
      | _ => cases hl
end
theorem okWide_one {P : Program} {w : World} {r : Reach} {b : Nat} {t : TypeId} {x : Value} (hok : Value.okWide P w r b t x) : (∃ fs,P.underlying t = some (.struct fs)∧∃ cs,x = .agg cs)∨(∀ fs,P.underlying t ≠ some (.struct fs))∧((∃ n e,P.underlying t = some (.array n e))∨x.cells = #[x]) := by
  unfold Value.okWide at hok
  split at hok
  · rename_i fs hu
    obtain ⟨cs,e,_⟩ := hok
    exact .inl ⟨fs,hu,cs,e⟩
  · rename_i n e hu
    exact .inr ⟨fun fs hf => (by rw [hu] at hf;cases hf),.inl ⟨n,e,hu⟩⟩
  · rename_i h1 h2
    refine .inr ⟨fun fs hf => h1 fs hf,.inr ?_⟩
    cases x with
    | agg cs =>
      exfalso
      unfold Cell.okWide at hok
      split at hok
      all_goals first
        | (rename_i hx;cases hx;done)
        | skip
      unfold Cell.ok at hok
      split at hok
      all_goals first
        | (rename_i hx;cases hx;done)
        | exact hok
    | _ => rfl
def hasTs (P : Program) : List TypeId→List V→Prop
  | [],vs => vs = []
  | t :: ts,vs => ∃ v q,vs = v :: q∧hasT P 12 t v∧hasTs P ts q
section
variable {H : Type} {enc : TypeId × Value→H} {P : Program} {w : World} {h : Hs}
theorem arg_rel {r : Reach} {b : Nat} {t : TypeId} {x : Value} {d : DataW H} {ps : List MemPlace} (hl : layT P 12 t = true) (hok : Value.okWide P w r b t x) (hd : DataW.Trod enc P w 0 (fun _ => true) true t x d ps) (hw : ∀ m∈d.weights P t,m≤reachBytes) :
    ∃ v,hasT P 12 t v∧ArgR h (allB w) w v x [] := by
  obtain ⟨fuel,hd⟩ := hd
  obtain ⟨v,h1,h2,h3⟩ := trod_rel (h:=h) fuel 12 t hl _ d ps hd hw
  refine ⟨v,h1,?_⟩
  have hone : (∃ fs,P.underlying t = some (.struct fs)∧∃ cs,x = .agg cs)∨(∀ fs,P.underlying t ≠ some (.struct fs))∧x.cells = #[x] := by
    rcases okWide_one hok with h4 | ⟨h4,h5 | h5⟩
    · exact .inl h4
    · obtain ⟨n,e,h5⟩ := h5
      unfold layT at hl
      rw [h5] at hl
      cases hl
    · exact .inr ⟨h4,h5⟩
  unfold hasT at h1
  rcases hone with ⟨fs,h4,cs,rfl⟩ | ⟨h4,h5⟩
  · rw [h4] at h1
    obtain ⟨xs,rfl,_⟩ := h1
    simp only [ArgR]
    refine ⟨trivial,h2,by simp,rfl,?_⟩
    simp only [RelS,RelS0]
    simp only [Rel] at h3
    exact ⟨cs,rfl,h3⟩
  · rw [h5] at h3
    split at h1
    · obtain ⟨b,rfl⟩ := h1
      exact ⟨rfl,h2,by simp,rfl,h3⟩
    · obtain ⟨m,rfl,_⟩ := h1
      exact ⟨rfl,h2,by simp,rfl,h3⟩
    · obtain ⟨xs,rfl,_⟩ := h1
      exact ⟨rfl,h2,by simp,rfl,h3⟩
    · rename_i fs hu
      exact absurd hu (h4 fs)
    · cases h1
theorem args_rel {r : Reach} {b : Nat} : ∀ {ts : List TypeId} {xs : List Value} {ds : List (DataW H)} {ps : List MemPlace},(ts.all fun t => layT P 12 t) = true→DataW.TrodAll enc P w 0 (fun _ => true) true ts xs ds ps →
    (∀ (j : Nat) t v,ts[j]? = some t→xs[j]? = some v→Value.okWide P w r b t v)→(∀ m∈DataW.weightsEach P ts ds,m≤reachBytes)→∃ vs,hasTs P ts vs∧ArgsR h (allB w) w vs xs []
  | [],xs,ds,ps,_,hd,_,_ => by
    obtain ⟨rfl,_,_⟩ := trodAll_nil hd
    exact ⟨[],rfl,rfl,rfl⟩
  | t :: ts,xs,ds,ps,hl,hd,hok,hw => by
    rw [List.all_cons,Bool.and_eq_true] at hl
    obtain ⟨x,q,d,dq,p1,p2,rfl,rfl,rfl,h1,h2⟩ := trodAll_cons hd
    simp only [DataW.weightsEach,List.mem_append] at hw
    obtain ⟨v,v1,v2⟩ := arg_rel (h:=h) hl.1 (hok 0 t x rfl rfl) h1 (fun m hm => hw m (.inl hm))
    obtain ⟨vs,l1,l2⟩ := args_rel hl.2 h2 (fun j t' v' e1 e2 => hok (j + 1) t' v' (by simpa using e1) (by simpa using e2)) (fun m hm => hw m (.inr hm))
    exact ⟨v :: vs,⟨v,vs,rfl,v1,l1⟩,x,q,[],[],rfl,rfl,v2,l2⟩
theorem args_stay (hlo : laidOutB P = true) {W' : World} (hb : ∀ b,b < w.heap.size→W'.heap[b]? = w.heap[b]?) : ∀ {ts : List TypeId} {xs : List Value} {ds : List (DataW H)} {ps : List MemPlace},(ts.all fun t => P.readableRec t && decide (t < P.types.size)) = true→DataW.TrodAll enc P w 0 (fun _ => true) true ts xs ds ps →
    DataW.TrodAll enc P W' 0 (fun b => decide (b < w.heap.size)) true ts xs ds ps
  | [],xs,ds,ps,_,hd => by
    obtain ⟨rfl,rfl,rfl⟩ := trodAll_nil hd
    exact trodAll_mk0
  | t :: ts,xs,ds,ps,hl,hd => by
    rw [List.all_cons,Bool.and_eq_true] at hl
    simp only [Bool.and_eq_true,decide_eq_true_eq] at hl
    obtain ⟨x,q,d,dq,p1,p2,rfl,rfl,rfl,h1,h2⟩ := trodAll_cons hd
    have hlt : ∀ y∈p1,y.block < w.heap.size := by
      obtain ⟨m,hm⟩ := h1
      exact DataW.trod_lt m _ _ _ hm
    have hsame : ∀ y∈p1,w.sameAt W' y := by
      intro y hy
      cases y with
      | cell b o => exact World.cell?_of_block (w:=w) (hb b (hlt _ hy))
      | map b => exact hb b (hlt _ hy)
    exact trodAll_cons_mk (WideElems.Trod_stays hlo hl.1.1 hl.1.2 h1 hsame (fun y hy => by simpa using hlt y hy)) (args_stay hlo hb hl.2 h2)
theorem law_calls {call : Call} (hc : CallOK P call) {f : FuncId} {fn : Func} {s : ChangeSpec} (hs : s.vars = []) (hsp : ∀ (K : Type) (ds : List (DataW K)),ds.length = fn.params.size→s.fn K ds = { results := [.lit (.bool true)],args := ds })
    {tb : TypeId} (hres : fn.resultTypes = #[tb]) (htb : P.underlying tb = some .bool) (hlo : laidOutB P = true) (hlay : (fn.params.toList.all fun t => layT P 12 t) = true) (hread : (fn.params.toList.all fun t => P.readableRec t && decide (t < P.types.size)) = true)
    (H1 : ∀ vs,hasTs P fn.params.toList vs→call f vs = some (.bool true,[])) (W : World) (base : Nat) (args : Array Value) (ds gs : List (DataW H)) (before : List MemPlace)
    (hval : ∀ (j : Nat) t v,fn.params[j]? = some t→args[j]? = some v→Value.okWide P W .any base t v) (hW : DataW.Whole enc P fn.params.toList s.vars false W args.toList ds gs before)
    (hsz : (DataW.weightsEach P (fn.params.toList ++ s.plain.varTypes P) (ds ++ gs)).all (·≤reachBytes) = true) :
    Calls P f args W fun e W' => ∃ v,e = .returned v∧s.post enc P fn false true false false W args v W' := by
  have hW' := hW
  obtain ⟨p,q,hA,hV,rfl,hfz,hnd⟩ := hW
  have hlen : ∀ {ts : List TypeId} {xs : List Value} {ds : List (DataW H)} {ps : List MemPlace},DataW.TrodAll enc P W 0 (fun _ => true) true ts xs ds ps→ds.length = ts.length := by
    intro ts
    induction ts with
    | nil => intro xs ds ps hd;obtain ⟨_,rfl,_⟩ := trodAll_nil hd;rfl
    | cons t ts ih =>
      intro xs ds ps hd
      obtain ⟨x,q,d,dq,p1,p2,rfl,rfl,rfl,h1,h2⟩ := trodAll_cons hd
      simp [ih h2]
  have hg : gs = []∧q = [] := trodVars_none (by rw [hs] at hV;exact hV)
  obtain ⟨rfl,rfl⟩ := hg
  have hv : s.plain.varTypes P = [] := by simp [ChangeSpec.plain,DataSpec.varTypes,hs]
  rw [hv,List.append_nil,List.append_nil] at hsz
  obtain ⟨vs,k1,k2⟩ := args_rel (h:=⟨fun _ => none,fun _ _ _ => 0,fun _ => 0,fun _ _ _ _ => none,fun _ _ _ _ => 0⟩) hlay hA (fun j t v e1 e2 => hval j t v (by simpa using e1) (by simpa using e2)) (fun m hm => by simpa using List.all_eq_true.1 hsz m hm)
  have key := (hc f vs _ _ (H1 vs k1)).2 _ _ W args.toList [] k2 List.nodup_nil (fun b hb => by cases hb) (fun b hb => hb)
  rw [Array.toArray_toList] at key
  refine key.mono fun e W' ⟨x,he,h',sh',fr,fo,L⟩ => ?_
  subst he
  refine ⟨_,rfl,ds,[],p ++ [],?_⟩
  have hx : x = .bool true := by
    have := L.ret
    simp only [RetR,RetS,Rel] at this
    have := this.2.1
    simpa using this
  subst hx
  have hds := hsp H ds (by rw [hlen hA];simp)
  refine ⟨[],p,[],hW',?_,?_,?_,⟨L.size.os,L.size.out,fun i hi => ?_⟩,fun h => by cases h⟩
  · rw [List.append_nil,hds,hres]
    exact trodAll_mk1 (shut_bool htb _)
  · rw [List.append_nil,hds]
    exact args_stay hlo (fun b hb => L.old b hb (by simp)) hread hA
  · rw [List.append_nil,hds,hs]
    exact rfl
  · rw [L.old i hi (by simp)]
    split <;> simp_all
end
section
variable {P : Program} {n : Nat} {t e : TypeId} {v : V}
theorem dec_int {k : IntKind} (hu : P.underlying t = some (.int k)) (h : hasT P (n + 1) t v) : ∃ m,v = .int k m∧k.min≤m∧m≤k.max := by
  unfold hasT at h;rw [hu] at h
  obtain ⟨m,e,hw⟩ := h
  refine ⟨m,e,?_⟩
  unfold Lit.wf at hw
  simp only [IntKind.has,Bool.and_eq_true,decide_eq_true_eq] at hw
  exact hw
theorem dec_slice (hu : P.underlying t = some (.slice e)) (h : hasT P (n + 1) t v) : ∃ xs,v = .lst false 0 xs∧xs.length≤140737488351232∧∀ x∈xs,hasT P n e x := by
  unfold hasT at h;rw [hu] at h;exact h
theorem dec_list {α : Type} {f : α→V} {p : α→Prop} : ∀ {xs : List V},(∀ x∈xs,∃ a,x = f a∧p a)→∃ l : List α,xs = l.map f∧∀ a∈l,p a
  | [],_ => ⟨[],rfl,fun a ha => (by cases ha)⟩
  | x :: r,h => by
    obtain ⟨a,e,ha⟩ := h x (List.mem_cons_self ..)
    obtain ⟨l,e2,hl⟩ := dec_list (fun y hy => h y (List.mem_cons_of_mem _ hy))
    exact ⟨a :: l,by rw [e,e2];rfl,fun b hb => by rcases List.mem_cons.1 hb with rfl | hb;exact ha;exact hl b hb⟩
end
end Go.Proofs.Ytbcgenkegnmkhaa.Ev
namespace Go.Proofs.Ytbcgenkegnmkhaa.Ev
open Go
set_option linter.unusedSectionVars false
set_option linter.unusedSimpArgs false
def wpC (orc : Orc) (cfg : Cfg) (fn : FuncId) (c : Code) (s : St) (Q : Ext→St→Prop) : Prop := ∃ r,codeE orc cfg fn c s = some r∧Q r.1 r.2
def wpO (call : Call) (cfg : Cfg) (draw : Bool) (all : List Oper) (base i : Nat) (rest : List Oper) (s : St) (tr : List (List (Nat × Acc))) (Q : St→List (List (Nat × Acc))→Prop) : Prop := ∃ r,opsE call cfg draw all base i rest s tr = some r∧Q r.1 r.2
def aftQ (orc : Orc) (cfg : Cfg) (fn : FuncId) (b : Code) (Q : Ext→St→Prop) : Ext→St→Prop
  | .normal,s => wpC orc cfg fn b s Q
  | e,s => Q e s
def blkQ (id : Nat) (Q : Ext→St→Prop) : Ext→St→Prop
  | .exit i,s => if i = id then Q .normal s else Q (.exit i) s
  | e,s => Q e s
def endQ (Q : Ext→St→Prop) (s : St) (_ : List (List (Nat × Acc))) : Prop := Q .normal s
def endD (Q : Ext→St→Prop) (n : Nat) (bits : List Nat) (k : Nat) (s : St) (tr : List (List (Nat × Acc))) : Prop := calmE bits k tr = true∧Q .normal ⟨s.env,s.obs,n⟩
section
variable {orc : Orc} {cfg : Cfg} {fn : FuncId} {Q : Ext→St→Prop} {s : St}
theorem wc_skip (h : Q .normal s) : wpC orc cfg fn .skip s Q := ⟨_,rfl,h⟩
theorem wc_exit {id : Nat} (h : Q (.exit id) s) : wpC orc cfg fn (.exit id) s Q := ⟨_,rfl,h⟩
theorem wc_ret (h : Q .ret s) : wpC orc cfg fn .ret s Q := ⟨_,rfl,h⟩
theorem wc_seq {a b : Code} (h : wpC orc cfg fn a s (aftQ orc cfg fn b Q)) : wpC orc cfg fn (.seq a b) s Q := by
  obtain ⟨⟨e,s1⟩,h1,h2⟩ := h
  cases e with
  | normal =>
    obtain ⟨r,h3,h4⟩ := h2
    exact ⟨r,by simp only [codeE,h1];exact h3,h4⟩
  | ret => exact ⟨_,by simp only [codeE,h1],h2⟩
  | exit i => exact ⟨_,by simp only [codeE,h1],h2⟩
theorem wc_cond {c : Operand} {a b : Code} {v : Bool} (hc : opV s.env c = some (.bool v)) (h1 : v = true→wpC orc cfg fn a s Q) (h2 : v = false→wpC orc cfg fn b s Q) : wpC orc cfg fn (.cond c a b) s Q := by
  cases v with
  | true =>
    obtain ⟨r,h3,h4⟩ := h1 rfl
    exact ⟨r,by simp only [codeE,hc];exact h3,h4⟩
  | false =>
    obtain ⟨r,h3,h4⟩ := h2 rfl
    exact ⟨r,by simp only [codeE,hc];exact h3,h4⟩
theorem wc_block {id : Nat} {b : Code} (h : wpC orc cfg fn b s (blkQ id Q)) : wpC orc cfg fn (.block id b) s Q := by
  obtain ⟨⟨e,s1⟩,h1,h2⟩ := h
  cases e with
  | normal => exact ⟨_,by simp only [codeE,h1],h2⟩
  | ret => exact ⟨_,by simp only [codeE,h1],h2⟩
  | exit i =>
    by_cases hi : i = id
    · simp only [blkQ,if_pos hi] at h2
      exact ⟨_,by simp only [codeE,h1,if_pos hi];rfl,h2⟩
    · simp only [blkQ,if_neg hi] at h2
      exact ⟨_,by simp only [codeE,h1,if_neg hi];rfl,h2⟩
theorem wc_loop {b : Code} {e : Ext} {s' : St} (h : orc.loop fn (keyOf b) s = some (e,s')) (hq : Q e s') : wpC orc cfg fn (.loop b) s Q := ⟨_,h,hq⟩
theorem wc_loopU {call : Call} {n : Nat} {f : Func} {full b : Code} (hf : cfg.code fn = some f) (hb : f.body = some full) (hk : findLoop (keyOf b) full = some b) (h : wpC ⟨call,loopU call cfg n⟩ cfg fn b s (fun e s' => match e with
      | .normal => ∃ r,loopU call cfg n fn (keyOf b) s' = some r∧Q r.1 r.2
      | e => Q e s')) : wpC ⟨call,loopU call cfg (n + 1)⟩ cfg fn (.loop b) s Q := by
  obtain ⟨⟨e,s'⟩,h1,h2⟩ := h
  cases e with
  | normal =>
    obtain ⟨r,h3,h4⟩ := h2
    exact ⟨r,by simp only [codeE,loopU,hf,hb,Option.bind_some,hk,h1,h3],h4⟩
  | ret => exact ⟨(.ret,s'),by simp only [codeE,loopU,hf,hb,Option.bind_some,hk,h1],h2⟩
  | exit i => exact ⟨(.exit i,s'),by simp only [codeE,loopU,hf,hb,Option.bind_some,hk,h1],h2⟩
theorem wc_regionG {id : Nat} {ops : Array Oper} (hal : cfg.alR fn id = 0) (h : wpO orc.call cfg false ops.toList s.nxt 0 ops.toList s [] (endQ Q)) : wpC orc cfg fn (.region id ops false) s Q := by
  obtain ⟨r,h1,h2⟩ := h
  exact ⟨(.normal,r.1),by simp only [codeE,regionX,hal,regionE,h1,true_or,if_true,Bool.false_eq_true,if_false],h2⟩
theorem wc_drawG {id : Nat} {ops : Array Oper} (hal : cfg.alR fn id = 0) (h : wpO orc.call cfg true ops.toList s.nxt 0 ops.toList s [] (endD Q (s.nxt + 32 * ops.toList.length) (beforeE ops.toList 0 ops.toList []) (ops.toList.length - 1))) : wpC orc cfg fn (.region id ops true) s Q := by
  obtain ⟨r,h1,h2,h3⟩ := h
  exact ⟨(.normal,⟨r.1.env,r.1.obs,s.nxt + 32 * ops.toList.length⟩),by simp only [codeE,regionX,hal,regionE,h1,h2,or_true,if_true],h3⟩
def wpA (call : Call) (cfg : Cfg) (k : Nat) (all : List Oper) (base : Nat) (rest : List Oper) (s : St) (Q : St→Prop) : Prop := ∃ t,opsA call cfg k all base rest s = some t∧Q t
theorem wc_toldG {id k : Nat} {ops : Array Oper} (hal : cfg.alR fn id = k) (hk : k ≠ 0) (h : wpA orc.call cfg k ops.toList s.nxt ops.toList s (fun t => Q .normal t)) : wpC orc cfg fn (.region id ops false) s Q := by
  obtain ⟨r,h1,h2⟩ := h
  exact ⟨(.normal,r),by simp only [codeE,regionX,hal,if_neg hk,regionA,h1,Bool.false_eq_true,if_false],h2⟩
theorem end_mk {e : List (Nat × V)} {o : List (Nat × Ob)} {m n' : Nat} {tr : List (List (Nat × Acc))} (hn : m = n') (h : Q .normal ⟨e,o,n'⟩) : endQ Q ⟨e,o,m⟩ tr := by subst hn;exact h
theorem endD_mk {e : List (Nat × V)} {o : List (Nat × Ob)} {m n n' k : Nat} {bits : List Nat} {tr : List (List (Nat × Acc))} (hn : n = n') (hc : calmE bits k tr = true) (h : Q .normal ⟨e,o,n'⟩) : endD Q n bits k ⟨e,o,m⟩ tr := by subst hn;exact ⟨hc,h⟩
theorem aft_normal {b : Code} (h : wpC orc cfg fn b s Q) : aftQ orc cfg fn b Q .normal s := h
theorem aft_ret {b : Code} (h : Q .ret s) : aftQ orc cfg fn b Q .ret s := h
theorem aft_exit {b : Code} {i : Nat} (h : Q (.exit i) s) : aftQ orc cfg fn b Q (.exit i) s := h
theorem blk_normal {id : Nat} (h : Q .normal s) : blkQ id Q .normal s := h
theorem blk_ret {id : Nat} (h : Q .ret s) : blkQ id Q .ret s := h
theorem blk_exit {i : Nat} (h : Q .normal s) : blkQ i Q (.exit i) s := by
  show (if i = i then Q .normal s else Q (.exit i) s)
  rw [if_pos rfl];exact h
end
section
variable {call : Call} {cfg : Cfg} {draw : Bool} {all rest : List Oper} {base i : Nat} {s : St} {tr : List (List (Nat × Acc))} {Q : St→List (List (Nat × Acc))→Prop}
theorem wo_nil (h : Q s tr) : wpO call cfg draw all base i [] s tr Q := ⟨_,rfl,h⟩
theorem wo_op {s1 : St} {d : Option Tmp} {op : Op} {t : TypeId} {p : String} {af : Array Edge} {r : Option (V × St)} {v : V} {s' : St} (h : opE call cfg s.nxt base s t op = r) (hr : r = some (v,s')) (hs : (s'.put d v).on false (max s.nxt s'.nxt) = s1) (hk : wpO call cfg false all base (i + 1) rest s1 [] Q) :
    wpO call cfg false all base i (⟨d,op,t,p,af,none⟩ :: rest) s [] Q := by
  subst hr
  subst hs
  obtain ⟨r,h1,h2⟩ := hk
  exact ⟨r,by simp only [opsE,guardE,Call.pick,h,Bool.false_eq_true,if_false];exact h1,h2⟩
theorem wo_draw {s1 : St} {ac : List (Nat × Acc)} {d : Option Tmp} {op : Op} {t : TypeId} {p : String} {af : Array Edge} {r : Option (V × St)} {v : V} {s' : St} (h : opE call.noI cfg (base + 32 * i) base s t op = r) (hr : r = some (v,s')) (hs : s'.put d v = s1) (ha : accE cfg (base + 32 * i) base s v op = ac) (hk : wpO call cfg true all base (i + 1) rest s1 (ac :: tr) Q) :
    wpO call cfg true all base i (⟨d,op,t,p,af,none⟩ :: rest) s tr Q := by
  subst hr
  subst hs
  subst ha
  obtain ⟨r,h1,h2⟩ := hk
  exact ⟨r,by simp only [opsE,guardE,Call.pick,St.on,h,if_true];exact h1,h2⟩
theorem wo_guard0 {o : Oper} {j : Nat} {want b : Bool} (hg : o.guard = some (j,want)) (hb : ((all[j]?).bind (·.dst)).bind (geta s.env) = some (.bool b)) (h1 : b = want→wpO call cfg draw all base i ({ o with guard := none } :: rest) s tr Q)
    (h2 : b = !want→wpO call cfg draw all base (i + 1) rest ((s.put o.dst (.iop .und)).on draw s.nxt) (if draw = true then [] :: tr else []) Q) : wpO call cfg draw all base i (o :: rest) s tr Q := by
  have hgE : guardE all s.env o.guard = some (b == want) := by
    unfold guardE
    rw [hg]
    simp only [hb]
  by_cases h : b = want
  · obtain ⟨r,h3,h4⟩ := h1 h
    refine ⟨r,?_,h4⟩
    rw [← h3]
    have e : (b == want) = true := by simp [h]
    rw [e] at hgE
    simp only [opsE]
    rw [hgE]
    rfl
  · have hn : b = !want := by cases b <;> cases want <;> simp_all
    obtain ⟨r,h3,h4⟩ := h2 hn
    refine ⟨r,?_,h4⟩
    rw [← h3]
    have e : (b == want) = false := by simp [h]
    rw [e] at hgE
    simp only [opsE]
    rw [hgE]
theorem wo_guard {s1 : St} {d : Option Tmp} {op : Op} {t : TypeId} {p : String} {af : Array Edge} {j : Nat} {want b : Bool} {r : Option V} (hb0 : ((all[j]?).bind (·.dst)).bind (geta s.env) = r) (hb : r = some (.bool b)) (hs : (s.put d (.iop .und)).on draw s.nxt = s1)
    (h1 : b = want→wpO call cfg draw all base i (⟨d,op,t,p,af,none⟩ :: rest) s tr Q) (h2 : b = !want→wpO call cfg draw all base (i + 1) rest s1 (if draw = true then [] :: tr else []) Q) :
    wpO call cfg draw all base i (⟨d,op,t,p,af,some (j,want)⟩ :: rest) s tr Q := by
  subst hs
  exact wo_guard0 rfl (hb0.trans hb) h1 h2
end
theorem wp_fun {P : Program} {T : Tab} {f : FuncId} {fn : Func} {body : Code} {args : List V} {x : V × List V} (hn : T.nils f = false) (hh : T.hsB f = false) (hf : (cfgOf P T).code f = some fn) (hb : fn.body = some body) (hl : args.length = fn.params.size + fn.nfree)
    (h : wpC (Or P T) (cfgOf P T) f body ⟨(bindArgs 0 args).1,(bindArgs 0 args).2,args.length⟩ (fun e s => (e = .normal∨e = .ret)∧∃ vs,resL (cfgOf P T) s fn.results.toList = some vs∧∃ q,V.fzL vs s = some q∧∃ os,outsV 0 args q.2 = some os∧(oneV q.1,os) = x)) : (Or P T).call f args = some x := by
  refine or_call ?_ hn hh
  obtain ⟨r,h1,h2,vs,h3,q,h4,os,h5,h6⟩ := h
  unfold runE
  simp only [hf,hb,if_pos hl,h1,if_pos h2,h3,h4,h5,mp_some,h6]
theorem wp_round {P : Program} {T : Tab} {f k : Nat} {fn : Func} {body full : Code} {s s0 : St} {r : Ext × St} (hf : (cfgOf P T).code f = some fn) (hb : fn.body = some full) (hk : findLoop k full = some body) (hs : normE (fn.params.size + fn.nfree) (T.keep f k) s = s0)
    (h : wpC (Or P T) (cfgOf P T) f body s0 (fun e s' => match e with
      | .normal => (Or P T).loop f k s' = some r
      | e => (e,normE (fn.params.size + fn.nfree) (T.out f k) s') = r)) : (Or P T).loop f k s = some r := by
  refine or_loop ?_
  obtain ⟨⟨e,s1⟩,h1,h2⟩ := h
  unfold loopE
  simp only [hf,hb,Option.bind_some,hk]
  have e1 : (cfgOf P T).keep f k = T.keep f k := rfl
  have e2 : (cfgOf P T).out f k = T.out f k := rfl
  rw [e1,hs,h1]
  cases e with
  | normal => exact h2
  | ret => simp only at h2;rw [← h2,e2]
  | exit i => simp only at h2;rw [← h2,e2]
def opK (call : Call) (cfg : Cfg) (id base : Nat) (e : List (Nat × V)) (o : List (Nat × Ob)) (n : Nat) (t : TypeId) (op : Op) (K : V→List (Nat × Ob)→Prop) : Prop :=
  ∃ v o',opE call cfg id base ⟨e,o,n⟩ t op = some (v,⟨e,o',n⟩)∧K v o'
section
variable {call : Call} {cfg : Cfg} {draw : Bool} {all rest : List Oper} {base i : Nat} {tr : List (List (Nat × Acc))} {Q : St→List (List (Nat × Acc))→Prop} {e : List (Nat × V)} {o : List (Nat × Ob)} {n : Nat} {d : Nat} {op : Op} {t : TypeId} {p : String} {af : Array Edge}
theorem wo_k (h : opK call cfg n base e o n t op (fun v o' => wpO call cfg false all base (i + 1) rest ⟨(d,v) :: e,o',n + 32⟩ [] Q)) : wpO call cfg false all base i (⟨some d,op,t,p,af,none⟩ :: rest) ⟨e,o,n⟩ [] Q := by
  obtain ⟨v,o',h1,h2⟩ := h
  exact wo_op h1 rfl (by simp only [Nat.max_self];rfl) h2
theorem wo_k0 (h : opK call cfg n base e o n t op (fun _ o' => wpO call cfg false all base (i + 1) rest ⟨e,o',n + 32⟩ [] Q)) : wpO call cfg false all base i (⟨none,op,t,p,af,none⟩ :: rest) ⟨e,o,n⟩ [] Q := by
  obtain ⟨v,o',h1,h2⟩ := h
  exact wo_op h1 rfl (by simp only [Nat.max_self];rfl) h2
theorem wd_k (h : opK call.noI cfg (base + 32 * i) base e o n t op (fun v o' => ∃ ac,accE cfg (base + 32 * i) base ⟨e,o,n⟩ v op = ac∧wpO call cfg true all base (i + 1) rest ⟨(d,v) :: e,o',n⟩ (ac :: tr) Q)) : wpO call cfg true all base i (⟨some d,op,t,p,af,none⟩ :: rest) ⟨e,o,n⟩ tr Q := by
  obtain ⟨v,o',h1,ac,h2,h3⟩ := h
  exact wo_draw h1 rfl rfl h2 h3
theorem wd_k0 (h : opK call.noI cfg (base + 32 * i) base e o n t op (fun v o' => ∃ ac,accE cfg (base + 32 * i) base ⟨e,o,n⟩ v op = ac∧wpO call cfg true all base (i + 1) rest ⟨e,o',n⟩ (ac :: tr) Q)) : wpO call cfg true all base i (⟨none,op,t,p,af,none⟩ :: rest) ⟨e,o,n⟩ tr Q := by
  obtain ⟨v,o',h1,ac,h2,h3⟩ := h
  exact wo_draw h1 rfl rfl h2 h3
theorem wo_i {args : Array Operand} {ts : Array TypeId} {fo : Operand} {f : FuncId} {cs vs : List V} {v : V} {o' : List (Nat × Ob)} {m m' : Nat} (hx : opsV e args.toList = some vs) (hf : opV e fo = some (.clo f cs)) (hB : cfg.inB f = true) (hk : V.capsOk cs = true)
    (hc : call.i f (vs ++ cs) ⟨e,o,n⟩ n = some (v,⟨e,o',m⟩)) (hm : max n m + 32 = m') (h : wpO call cfg false all base (i + 1) rest ⟨(d,v) :: e,o',m'⟩ [] Q) : wpO call cfg false all base i (⟨some d,.call ⟨.value fo,args,ts⟩,t,p,af,none⟩ :: rest) ⟨e,o,n⟩ [] Q := by
  refine wo_op (v:=v) (s' := ⟨e,o',m⟩) (s1:=⟨(d,v) :: e,o',m'⟩) (show opE call cfg n base ⟨e,o,n⟩ t _ = _ from rfl) ?_ (by subst hm;rfl) h
  simp only [opE,hx,hf,if_pos hk,if_pos hB,hc]
theorem wo_on {j : Nat} {want b : Bool} {dd : Option Tmp} (hb : ((all[j]?).bind (·.dst)).bind (geta e) = some (.bool b)) (hw : b = want) (h : wpO call cfg draw all base i (⟨dd,op,t,p,af,none⟩ :: rest) ⟨e,o,n⟩ tr Q) : wpO call cfg draw all base i (⟨dd,op,t,p,af,some (j,want)⟩ :: rest) ⟨e,o,n⟩ tr Q :=
  wo_guard hb rfl rfl (fun _ => h) (fun h2 => by subst hw;cases b <;> cases h2)
theorem wo_off {j : Nat} {want b : Bool} (hb : ((all[j]?).bind (·.dst)).bind (geta e) = some (.bool b)) (hw : b = !want) (h : wpO call cfg false all base (i + 1) rest ⟨(d,.iop .und) :: e,o,n + 32⟩ [] Q) : wpO call cfg false all base i (⟨some d,op,t,p,af,some (j,want)⟩ :: rest) ⟨e,o,n⟩ tr Q :=
  wo_guard hb rfl rfl (fun h2 => by subst hw;cases want <;> cases h2) (fun _ => h)
theorem wd_off {j : Nat} {want b : Bool} (hb : ((all[j]?).bind (·.dst)).bind (geta e) = some (.bool b)) (hw : b = !want) (h : wpO call cfg true all base (i + 1) rest ⟨(d,.iop .und) :: e,o,n⟩ ([] :: tr) Q) : wpO call cfg true all base i (⟨some d,op,t,p,af,some (j,want)⟩ :: rest) ⟨e,o,n⟩ tr Q :=
  wo_guard hb rfl rfl (fun h2 => by subst hw;cases want <;> cases h2) (fun _ => h)
theorem wo_offN {j : Nat} {want : Bool} {y : V} (hb : ((all[j]?).bind (·.dst)).bind (geta e) = some (.iop y)) (h : wpO call cfg false all base (i + 1) rest ⟨(d,.iop .und) :: e,o,n + 32⟩ [] Q) : wpO call cfg false all base i (⟨some d,op,t,p,af,some (j,want)⟩ :: rest) ⟨e,o,n⟩ tr Q := by
  obtain ⟨r,h1,h2⟩ := h
  exact ⟨r,by simp only [opsE,guardE,hb,Bool.false_eq_true,if_false];exact h1,h2⟩
theorem wo_ways {j : Nat} {want b : Bool} {dd : Option Tmp} (hb : ((all[j]?).bind (·.dst)).bind (geta e) = some (.bool b))
    (h1 : b = want→wpO call cfg draw all base i (⟨dd,op,t,p,af,some (j,want)⟩ :: rest) ⟨e,o,n⟩ tr Q) (h2 : b = !want→wpO call cfg draw all base i (⟨dd,op,t,p,af,some (j,want)⟩ :: rest) ⟨e,o,n⟩ tr Q) :
    wpO call cfg draw all base i (⟨dd,op,t,p,af,some (j,want)⟩ :: rest) ⟨e,o,n⟩ tr Q := by
  by_cases h : b = want
  · exact h1 h
  · exact h2 (by cases b <;> cases want <;> simp_all)
end
section
variable {call : Call} {cfg : Cfg} {id base : Nat} {e : List (Nat × V)} {o : List (Nat × Ob)} {n : Nat} {t : TypeId} {K : V→List (Nat × Ob)→Prop}
theorem k_nil {el : TypeId} {z : V} (he : cfg.elem t = some el) (hz : cfg.zero el = some z) (h : K (.lst true z.cells []) o) : opK call cfg id base e o n t (.assign (.const (.slice none 0 0))) K :=
  ⟨_,_,by simp only [opE,opT,he,Option.bind_some,hz,mp_some],h⟩
theorem k_nilP (h : K .und o) : opK call cfg id base e o n t (.assign (.const (.pointer none))) K :=
  ⟨_,_,by simp only [opE,opT,mp_some],h⟩
theorem opT_of {x : Operand} {v : V} (hx : opV e x = some v) (hn : nilC x = false) : opT cfg e t x = some v := by
  unfold opT
  split
  · simp [nilC] at hn
  · simp [opV,constV] at hx
  · exact hx
theorem k_move {x : Operand} {v : V} (hx : opV e x = some v) (hn : nilC x = false) (h : K v o) : opK call cfg id base e o n t (.move x) K := ⟨_,_,by simp only [opE,opT_of hx hn,mp_some],h⟩
theorem k_assign {x : Operand} {v : V} (hx : opV e x = some v) (hn : nilC x = false) (h : K v o) : opK call cfg id base e o n t (.assign x) K := ⟨_,_,by simp only [opE,opT_of hx hn,mp_some],h⟩
theorem k_pickT {c x y : Operand} {b : Bool} {v : V} (hc : opV e c = some (.bool b)) (hb : b = true) (hx : opV e x = some v) (h : K v o) : opK call cfg id base e o n t (.pick c x y) K := by
  subst hb;exact ⟨v,o,by simp only [opE,hc,if_true,hx,mp_some],h⟩
theorem k_pickF {c x y : Operand} {b : Bool} {v : V} (hc : opV e c = some (.bool b)) (hb : b = false) (hy : opV e y = some v) (h : K v o) : opK call cfg id base e o n t (.pick c x y) K := by
  subst hb;exact ⟨v,o,by simp only [opE,hc,Bool.false_eq_true,if_false,hy,mp_some],h⟩
theorem k_alloc {t' : TypeId} {z : V} {id' : Nat} (hz : cfg.zero t' = some z) (hid : id = id') (h : K (.ptr id' 0 []) ((id',⟨true,false,z.cells,[z],0⟩) :: o)) : opK call cfg id base e o n t (.alloc t') K := by
  subst hid;exact ⟨_,_,by simp only [opE,hz,mp_some];rfl,h⟩
theorem k_box {t' : TypeId} {x : Operand} {v z : V} {id' : Nat} (hx : opV e x = some v) (hz : cfg.zero t' = some z) (hid : id = id') (hc : z.alike v = true) (ht : v.isTup = false) (h : K (.ptr id' 0 []) ((id',⟨true,false,z.cells,[v],0⟩) :: o)) : opK call cfg id base e o n t (.box t' x) K := by
  subst hid;exact ⟨_,_,by simp only [opE,hx,hz,if_pos (And.intro hc ht)];rfl,h⟩
theorem k_load {t' : TypeId} {x : Operand} {z vx v : V} (hz : cfg.zero t' = some z) (hx : opV e x = some vx) (hv : loadV ⟨e,o,n⟩ z vx = some v) (h : K v o) : opK call cfg id base e o n t (.load t' x) K := ⟨_,_,by simp only [opE,hz,hx,hv,mp_some],h⟩
theorem k_store {t' : TypeId} {x y : Operand} {z vx vy : V} {o' : List (Nat × Ob)} (hz : cfg.zero t' = some z) (hx : opV e x = some vx) (hy : opV e y = some vy) (hv : storeV ⟨e,o,n⟩ z vx vy = some ⟨e,o',n⟩) (h : K .und o') : opK call cfg id base e o n t (.store t' x y) K := ⟨_,_,by simp only [opE,hz,hx,hy,hv,mp_some],h⟩
theorem k_nilCheckP {x : Operand} {k i : Nat} {fs : List Nat} (hx : opV e x = some (.ptr k i fs)) (h : K (.ptr k i fs) o) : opK call cfg id base e o n t (.nilCheck x) K := ⟨_,_,by simp only [opE,hx],h⟩
theorem k_nilCheckV {x : Operand} {y : V} (hx : opV e x = some (.vptr y)) (h : K (.vptr y) o) : opK call cfg id base e o n t (.nilCheck x) K := ⟨_,_,by simp only [opE,hx],h⟩
theorem k_bin {op : BinOp} {t' t2 : TypeId} {x y : Operand} {k : IntKind} {a b : Int} {v : V} (hx : opV e x = some (.int k a)) (hy : opV e y = some (.int k b)) (hn : nilC y = false) (hv : intV op k a b = some v) (h : K v o) : opK call cfg id base e o n t (.binOp op t' x y t2) K := by
  have hs : ¬ (op = .shl∨op = .shr) := by
    rintro (rfl | rfl) <;> simp [intV] at hv
  exact ⟨_,_,by simp only [opE,hx,hn,Bool.false_eq_true,if_false,hy,if_neg hs,binV,if_true,hv,mp_some],h⟩
theorem k_binB {op : BinOp} {t' t2 : TypeId} {x y : Operand} {a b r : Bool} (hz : cfg.zero t' = some (.bool false)) (hx : opV e x = some (.bool a)) (hy : opV e y = some (.bool b)) (hn : nilC y = false) (hv : (op = .eql∧r = decide (a = b))∨(op = .neq∧r = decide (a ≠ b))) (h : K (.bool r) o) : opK call cfg id base e o n t (.binOp op t' x y t2) K := by
  have hs : ¬ (op = .shl∨op = .shr) := by
    rintro (rfl | rfl) <;> (rcases hv with ⟨h,_⟩ | ⟨h,_⟩ <;> cases h)
  refine ⟨_,_,?_,h⟩
  simp only [opE,hx,hn,Bool.false_eq_true,if_false,hy,if_neg hs,binV,boolT,hz,if_true]
  rcases hv with ⟨rfl,rfl⟩ | ⟨rfl,rfl⟩ <;> rfl
theorem k_shift {op : BinOp} {t' t2 : TypeId} {x y : Operand} {vx vy v : V} (hx : opV e x = some vx) (hy : opV e y = some vy) (hn : nilC y = false) (ho : op = .shl∨op = .shr) (hv : shiftV op vx vy = some v) (h : K v o) : opK call cfg id base e o n t (.binOp op t' x y t2) K :=
  ⟨_,_,by simp only [opE,hx,hn,Bool.false_eq_true,if_false,hy,if_pos ho,hv,mp_some],h⟩
theorem k_un {op : UnOp} {t' : TypeId} {x : Operand} {vx v : V} (hx : opV e x = some vx) (hv : unV op vx = some v) (h : K v o) : opK call cfg id base e o n t (.unOp op t' x) K := ⟨_,_,by simp only [opE,hx,hv,mp_some],h⟩
theorem k_convert {ts t' : TypeId} {x : Operand} {k0 k k1 : IntKind} {a : Int} (h0 : cfg.ints ts = some k0) (h1 : cfg.ints t' = some k) (hx : opV e x = some (.int k1 a)) (h : K (.int k (k.wrap a)) o) : opK call cfg id base e o n t (.convert ts t' x) K := ⟨_,_,by simp only [opE,h0,h1,hx],h⟩
theorem k_makeFunc {f : FuncId} {caps : Array Operand} {cs : List V} (hx : opsV e caps.toList = some cs) (hk : V.capsOk cs = true) (h : K (.clo f cs) o) : opK call cfg id base e o n t (.makeFunc (.func f) #[] caps) K :=
  ⟨_,_,by simp only [opE,hx,if_pos hk];rfl,h⟩
theorem k_makeSlice {t' el : TypeId} {x y : Operand} {k k' : IntKind} {a : Int} {z : V} {id' : Nat} (hx : opV e x = some (.int k a)) (hy : opV e y = some (.int k' a)) (he : cfg.elem t' = some el) (hz : cfg.zero el = some z) (hid : id = id') (h0 : 0≤a) (h1 : a < maxV)
    (h : K (.ref id' 0 a.toNat) ((id',⟨false,false,z.cells,List.replicate a.toNat z,0⟩) :: o)) : opK call cfg id base e o n t (.makeSlice t' x y) K := by
  subst hid
  exact ⟨_,_,by simp only [opE,hx,hy,he,Option.bind_some,hz,if_pos (And.intro h0 (And.intro h1 trivial))];rfl,h⟩
theorem k_slice {t' el : TypeId} {x : Operand} {lo hi : Option Operand} {vx z v : V} {vl vh : Option V} {m a b : Int} (hx : opV e x = some vx) (hl : optV e lo = some vl) (hh : optV e hi = some vh) (he : cfg.elem t' = some el) (hz : cfg.zero el = some z) (hm : lenV vx = some m)
    (ha : bound vl 0 = some a) (hb : bound vh m = some b) (hc : 0≤a∧a≤b∧b≤m) (hv : cutV ⟨e,o,n⟩ z.cells vx a b = some v) (h : K v o) : opK call cfg id base e o n t (.slice t' x lo hi none) K :=
  ⟨_,_,by simp only [opE,hx,hl,hh,sliceV,he,Option.bind_some,hz,hm,ha,hb,if_pos hc,hv,mp_some],h⟩
theorem k_fieldAddrP {t' : TypeId} {x : Operand} {i k j : Nat} {fs : List Nat} {ob : Ob} {y : V} (hx : opV e x = some (.ptr k j fs)) (ho : geta o k = some ob) (hy : ob.get j fs = some y) (hf : fieldOk cfg t' y i = true) (h : K (.ptr k j (fs ++ [i])) o) : opK call cfg id base e o n t (.fieldAddr t' x i) K :=
  ⟨_,_,by simp only [opE,hx,fieldAddrV,ho,hy,if_pos hf,mp_some],h⟩
theorem k_fieldAddrV {t' : TypeId} {x : Operand} {i : Nat} {xs : List V} {y : V} (hx : opV e x = some (.vptr (.agg xs))) (hf : fieldOk cfg t' (.agg xs) i = true) (hy : xs[i]? = some y) (h : K (.vptr y) o) : opK call cfg id base e o n t (.fieldAddr t' x i) K :=
  ⟨_,_,by simp only [opE,hx,fieldAddrV,if_pos hf,hy,mp_some],h⟩
theorem k_field {t' : TypeId} {x : Operand} {i : Nat} {xs : List V} {y : V} (hx : opV e x = some (.agg xs)) (hf : fieldOk cfg t' (.agg xs) i = true) (hy : xs[i]? = some y) (h : K y o) : opK call cfg id base e o n t (.field t' x i) K :=
  ⟨_,_,by simp only [opE,hx,if_pos hf,hy,mp_some],h⟩
theorem k_index {t' el : TypeId} {x ix : Operand} {k : IntKind} {a : Int} {sz : Nat} {xs : List V} {z y : V} (he : cfg.elem t' = some el) (hz : cfg.zero el = some z) (hx : opV e x = some (.lst false sz xs)) (hi : opV e ix = some (.int k a)) (h0 : 0≤a) (hy : xs[a.toNat]? = some y) (hc : y.cells = z.cells)
    (h : K (.vptr y) o) : opK call cfg id base e o n t (.indexAddr t' x ix) K :=
  ⟨_,_,by simp only [opE,hx,hi,indexAddrV,he,Option.bind_some,hz,if_pos h0,hy,if_pos hc,mp_some],h⟩
theorem k_indexR {t' el : TypeId} {x ix : Operand} {k : IntKind} {a : Int} {q lo m : Nat} {ob : Ob} {z y : V} (he : cfg.elem t' = some el) (hz : cfg.zero el = some z) (hx : opV e x = some (.ref q lo m)) (hi : opV e ix = some (.int k a)) (ho : geta o q = some ob) (hb : ob.bx = false) (h0 : 0≤a) (hm : a.toNat < m)
    (hy : ob.xs[lo + a.toNat]? = some y) (hc : y.cells = z.cells) (h : K (.ptr q (lo + a.toNat) []) o) : opK call cfg id base e o n t (.indexAddr t' x ix) K :=
  ⟨_,_,by simp only [opE,hx,hi,indexAddrV,he,Option.bind_some,hz,if_pos h0,rowAddr,if_pos hm,ho,hy,if_pos (And.intro hb hc),mp_some],h⟩
theorem k_extract {x : Operand} {i : Nat} {xs : List V} {y : V} (hx : opV e x = some (.tup xs)) (hy : xs[i]? = some y) (h : K y o) : opK call cfg id base e o n t (.extract x i) K := ⟨_,_,by simp only [opE,hx,hy,mp_some],h⟩
theorem k_len {args : Array Operand} {ts : Array TypeId} {t' el : TypeId} {x : V} {m : Int} (hx : opsV e args.toList = some [x]) (ht : ts[0]? = some t') (he : cfg.elem t' = some el) (hm : lenV x = some m) (h : K (.int .i64 m) o) : opK call cfg id base e o n t (.call ⟨.builtin .len,args,ts⟩) K :=
  ⟨_,_,by simp only [opE,hx,builtinV,ht,he,Option.isSome_some,if_true,hm,mp_some],h⟩
theorem k_clear {args : Array Operand} {ts : Array TypeId} {t1 e1 : TypeId} {z : V} {q lo m : Nat} {ob : Ob} (hx : opsV e args.toList = some [.ref q lo m]) (h1 : ts[0]? = some t1) (he : cfg.elem t1 = some e1) (hz : cfg.zero e1 = some z) (ho : geta o q = some ob) (hc : ob.bx = false∧ob.fx = false∧ob.sz = z.cells∧0 < m∧lo + m = ob.xs.length)
    (h : K .und ((q,⟨ob.bx,ob.fx,ob.sz,ob.xs.take lo,ob.ver + 1⟩) :: o)) : opK call cfg id base e o n t (.call ⟨.builtin .clear,args,ts⟩) K :=
  ⟨_,_,by simp only [opE,hx,builtinV,h1,he,Option.bind_some,hz,ho,if_pos hc];rfl,h⟩
theorem k_cap {args : Array Operand} {ts : Array TypeId} {t' el : TypeId} (hx : opsV e args.toList = some [.emp true]) (ht : ts[0]? = some t') (he : cfg.elem t' = some el) (h : K (.int .i64 0) o) : opK call cfg id base e o n t (.call ⟨.builtin .cap,args,ts⟩) K :=
  ⟨_,_,by simp only [opE,hx,builtinV,ht,he,Option.isSome_some,if_true],h⟩
theorem k_min {args : Array Operand} {ts : Array TypeId} {vs : List V} {v : V} (hx : opsV e args.toList = some vs) (hv : minV vs = some v) (h : K v o) : opK call cfg id base e o n t (.call ⟨.builtin .min,args,ts⟩) K :=
  ⟨_,_,by simp only [opE,hx,builtinV,hv,mp_some],h⟩
theorem k_append {args : Array Operand} {ts : Array TypeId} {t1 t2 e1 e2 : TypeId} {x y z : V} {ys : List V} {s1 : St} {b : Nat × List V × St} {o2 : List (Nat × Ob)} {id' : Nat} (hx : opsV e args.toList = some [x,y]) (h1 : ts[0]? = some t1) (h2 : ts[1]? = some t2) (he1 : cfg.elem t1 = some e1) (hz : cfg.zero e1 = some z) (he2 : cfg.elem t2 = some e2)
    (hel : St.elems ⟨e,o,n⟩ base y = some (ys,s1)) (hb : s1.base (x.asRow z.cells) = some b) (hs : b.2.2 = ⟨e,o2,n⟩) (hid : id = id') (hsz : b.1 = z.cells) (hc : V.cellsAll z.cells ys = true) (hlen : (b.2.1 ++ ys).length < maxV)
    (h : K (.ref id' 0 (b.2.1 ++ ys).length) ((id',⟨false,false,z.cells,b.2.1 ++ ys,0⟩) :: o2)) : opK call cfg id base e o n t (.call ⟨.builtin .append,args,ts⟩) K := by
  subst hid
  refine ⟨_,_,?_,h⟩
  simp only [opE,hx,builtinV_app (elems_notInt hel),h1,h2,he2,Option.isSome_some,if_true,appendV,he1,Option.bind_some,hz,hel,hb,if_pos (And.intro hsz (And.intro hc hlen)),hs]
  rfl
theorem k_appendZ {args : Array Operand} {ts : Array TypeId} {t1 t2 e1 : TypeId} {z : V} {k k2 : IntKind} {m : Int} {id' : Nat} (hx : opsV e args.toList = some [.emp true,.int k m]) (h1 : ts[0]? = some t1) (h2 : ts[1]? = some t2) (he1 : cfg.elem t1 = some e1) (hz : cfg.zero e1 = some z) (hi : cfg.ints t2 = some k2) (hid : id = id') (h0 : 0 < m) (hm : m < maxV)
    (h : K (.ref id' 0 m.toNat) ((id',⟨false,false,z.cells,List.replicate m.toNat z,0⟩) :: o)) : opK call cfg id base e o n t (.call ⟨.builtin .append,args,ts⟩) K := by
  subst hid
  refine ⟨_,_,?_,h⟩
  simp only [opE,hx,builtinV,h1,h2,he1,Option.bind_some,hz,hi,Option.isSome_some,true_and,if_pos (And.intro h0 hm)]
  rfl
theorem k_build {t' : TypeId} {ps : Array (Nat × Operand)} {zs xs : List V} {l : List (Nat × V)} {fl : List (Nat × TypeId)} (hz : cfg.zero t' = some (.agg zs)) (hf : cfg.flds t' = some fl) (hp : partsV e ps.toList = some l) (hv : setParts cfg t' zs l = some xs) (h : K (.agg xs) o) : opK call cfg id base e o n t (.build t' ps) K :=
  ⟨_,_,by simp only [opE,hz,hf,Option.isSome_some,if_true,hp,hv,mp_some],h⟩
theorem k_buildSlice {t' el : TypeId} {m : Nat} {ps : Array (Nat × Operand)} {z : V} {l : List (Nat × V)} {ys : List V} {o1 : List (Nat × Ob)} {id' : Nat} (he : cfg.elem t' = some el) (hz : cfg.zero el = some z) (hp : partsV e ps.toList = some l) (hc : l.map (·.1) = List.range m∧m * z.cells≤16777216∧l.all (fun e => z.alike e.2) = true)
    (hf : V.fzL (l.map (·.2)) ⟨e,o,n⟩ = some (ys,⟨e,o1,n⟩)) (hid : id = id') (h : K (.ref id' 0 m) ((id',⟨false,false,z.cells,ys,0⟩) :: o1)) : opK call cfg id base e o n t (.buildSlice t' m ps) K := by
  subst hid
  exact ⟨_,_,by simp only [opE,he,Option.bind_some,hz,hp,if_pos hc,hf,mp_some];rfl,h⟩
theorem k_call {args : Array Operand} {ts : Array TypeId} {fo : Operand} {f : FuncId} {cs vs asv bs : List V} {s1 s2 : St} {lent : List (Nat × Ob)} {rv : V} {ro : List V} {o2 : List (Nat × Ob)} {id' : Nat} (hx : opsV e args.toList = some vs) (hf : opV e fo = some (.clo f cs)) (hB : cfg.inB f = false) (hk : V.capsOk cs = true) (hl : lendV (cfg.md f) (vs ++ cs) ⟨e,o,n⟩ = some (bs,s1,lent))
    (hs : snapsV s1 (cfg.md f) bs = some asv) (hc : call f asv = some (rv,ro)) (hid : id = id') (hw : ((plainM (cfg.md f) (vs ++ cs)).isEmpty = true∨rv.tidy = true∧V.tidyL ro = true)∧(rv.thaw id').2.2≤id' + 32) (hb : backs lent ro s1 = some s2) (h2 : s2 = ⟨e,o2,n⟩)
    (h : K (rv.thaw id').1 ((rv.thaw id').2.1 ++ o2)) : opK call cfg id base e o n t (.call ⟨.value fo,args,ts⟩) K := by
  subst hid
  subst h2
  refine ⟨_,_,?_,h⟩
  simp only [opE,hx,hf,if_pos hk,hB,Bool.false_eq_true,if_false,callV,hl,hs,hc,if_pos hw,hb]
end
structure Tys where
  zero : TypeId→Option V
  elem : TypeId→Option TypeId
  flds : TypeId→Option (List (Nat × TypeId))
  ints : TypeId→Option IntKind
structure TysOK (Y : Tys) (cfg : Cfg) : Prop where
  zero : ∀ t z,Y.zero t = some z→cfg.zero t = some z
  elem : ∀ t z,Y.elem t = some z→cfg.elem t = some z
  flds : ∀ t z,Y.flds t = some z→cfg.flds t = some z
  ints : ∀ t z,Y.ints t = some z→cfg.ints t = some z
def fieldT (Y : Tys) (t : TypeId) (x : V) (i : Nat) : Bool :=
  match Y.flds t with
  | none => false
  | some fs => match x with
    | .agg xs => match fs[i]? with
      | none => false
      | some f => match xs[i]? with
        | none => false
        | some y => match Y.zero f.2 with
          | none => false
          | some z => decide (fs.length = xs.length) && (decide (f.1 = offs xs i) && z.alike y)
    | _ => false
theorem fieldT_ok {Y : Tys} {cfg : Cfg} (H : TysOK Y cfg) {t : TypeId} {x : V} {i : Nat} (h : fieldT Y t x i = true) : fieldOk cfg t x i = true := by
  unfold fieldT at h
  split at h
  · cases h
  · rename_i fs hfs
    split at h
    · rename_i xs
      split at h
      · cases h
      · rename_i f hf
        split at h
        · cases h
        · rename_i y hy
          split at h
          · cases h
          · rename_i z hz
            unfold fieldOk
            rw [H.flds t fs hfs]
            simp only [hf,hy,H.zero f.2 z hz]
            exact h
    · cases h
def partsT (Y : Tys) (t : TypeId) : List V→List (Nat × V)→Option (List V)
  | xs,[] => some xs
  | xs,(i,v) :: r => match fieldT Y t (.agg xs) i with
    | false => none
    | true => match xs[i]? with
      | none => none
      | some x => match x.alike v && !v.isTup with
        | true => partsT Y t (xs.set i v) r
        | false => none
theorem partsT_ok {Y : Tys} {cfg : Cfg} (H : TysOK Y cfg) {t : TypeId} : ∀ {l : List (Nat × V)} {xs ys : List V},partsT Y t xs l = some ys→setParts cfg t xs l = some ys
  | [],xs,ys,h => h
  | (i,v) :: r,xs,ys,h => by
    simp only [partsT] at h
    split at h
    · cases h
    · rename_i hf
      split at h
      · cases h
      · rename_i x hx
        split at h
        · rename_i hc
          simp only [Bool.and_eq_true,Bool.not_eq_true'] at hc
          simp only [setParts,if_pos (fieldT_ok H hf),hx,if_pos hc]
          exact partsT_ok H h
        · cases h
end Go.Proofs.Ytbcgenkegnmkhaa.Ev
